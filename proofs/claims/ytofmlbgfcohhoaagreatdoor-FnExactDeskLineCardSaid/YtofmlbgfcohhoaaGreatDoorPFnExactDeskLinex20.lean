/- Lean functions of the Go functions that the law FnExactDeskLine reaches, each with its contract: made by a program of this session. -/
import Derived.Test.YtofmlbgfcohhoaaGreatDoorPFnExactDeskLinex19
namespace Go.Proofs.YtofmlbgfcohhoaaGreatDoor.PFnExactDeskLine
open Go.RowKit Go.Proofs.YtofmlbgfcohhoaaGreatDoorW.PrintWords Go.Proofs.YtofmlbgfcohhoaaGreatDoorW.PrintLast Go.Proofs.YtofmlbgfcohhoaaGreatDoorW.PrintMore Go.Proofs.YtofmlbgfcohhoaaGreatDoor.Lib
attribute [local go_sem] max2_int min2_int max_two min_two max_three min_three max_four min_four   -- for this text's walks alone
set_option linter.unusedVariables false
set_option linter.unusedSimpArgs false

/-! ### spec_l4Over: function 153 -/
def spec_l4Over.f (a0_0 : Int) (a0_1 : Int) : Option (Int) := (spec_l3Under.f (wrap64 (-a0_0)) a0_1).bind fun t568 => (some (wrap64 (-t568)))
set_option maxHeartbeats 8000000 in
set_option maxRecDepth 100000 in
theorem spec_l4Over.calls (a0_0 : Int) (a0_1 : Int) (r : Int) (w : World) (h : spec_l4Over.f a0_0 a0_1 = some r) :
  Calls Tryz.prog 153 #[.agg #[.int .i64 a0_0, .int .i64 a0_1]] w fun e w' => e = .returned (.int .i64 r) ∧ Below w.heap.size w w' := by
 have hu31 := Tryz.underlying31
 have HB := Aside0.mk (Below.refl w.heap.size w)
 unfold spec_l4Over.f at h
 have H := h
 clear h
 obtain ⟨t568, A2, H⟩ := sqD H
 obtain rfl := Option.some.inj H
 go_enter Tryz.func153, Tryz.ntmps153
 go_wp2_with (first | ((with_reducible refine gate_dst (N := 1) rfl ?_); refine sqBx w (sqB HB) (N := 1) (cs := #[.int .i64 a0_0, .int .i64 a0_1]) (t := 31) ?_; intro gb567 hg w3 BK567 GE567 HB hb; clear hb hg; obtain ⟨hcz4_0, hcz4_1, hfz4_0, hfz4_1⟩ := sqY2 BK567) | ((with_reducible refine gate_callee (f := 173) rfl ?_); refine sqC (some 9) Tryz.func173 #[.agg #[.int .i64 (wrap64 (-a0_0)), .int .i64 a0_1]] ?_; (with_reducible refine (spec_l3Under.calls (wrap64 (-a0_0)) a0_1 t568 _ A2.out).mono ?_); rintro e w5 ⟨rfl, hb⟩; refine ⟨_, rfl, ?_⟩; replace BK567 := sqT BK567 hb; replace HB := sqS (sqB1 HB GE567) hb; (try clear hb)))
 go_ret
 exact ⟨Z6, sqB1 HB GE567⟩

/-! ### spec_l4Terms: function 129 -/
def spec_l4Terms.l0 : Nat → List Int → Int → Int → Option (List Int)
 | 0, _, _, _ => none
 | k + 1, x3, x574000, x574001 => if x574001 > 0 then ((spec_l4Over.f x574000 x574001).bind fun t574 => (if x3.length < 17592186044416 then (spec_l4Terms.l0 k (x3 ++ [t574]) x574001 (wrap64 ((wrap64 (t574 * x574001)) - x574000))) else (none))) else (some x3)
def spec_l4Terms.f (k : Nat) (a0_0 : Int) (a0_1 : Int) : Option (List Int) := spec_l4Terms.l0 k (([] : List Int)) a0_0 a0_1
abbrev spec_l4Terms.M (k : Nat) : Prop := (∀ y0 y1 y2, LeO (spec_l4Terms.l0 k y0 y1 y2) (spec_l4Terms.l0 (k + 1) y0 y1 y2))
theorem spec_l4Terms.mono_t : ∀ k, spec_l4Terms.M k → spec_l4Terms.M (k + 1) ∧ ∀ a0 a1, LeO (spec_l4Terms.f k a0 a1) (spec_l4Terms.f (k + 1) a0 a1) := by
  rintro k ih0
  refine ⟨?_, ?_⟩ <;> (try unfold spec_l4Terms.M) <;> intros <;> (first | unfold spec_l4Terms.l0 | unfold spec_l4Terms.f) <;> repeat' (with_reducible first | exact ih0 _ _ _ | exact LeO.refl _ | exact LeO.none _ | refine LeO.ite ?_ ?_ | refine LeO.bind ?_ fun _ => ?_)
theorem spec_l4Terms.mono_l : ∀ k, spec_l4Terms.M k
 | 0 => fun _ _ _ r h => by simp [spec_l4Terms.l0] at h
 | k + 1 => (spec_l4Terms.mono_t k (spec_l4Terms.mono_l k)).1
theorem spec_l4Terms.mono a0 a1 k : LeO (spec_l4Terms.f k a0 a1) (spec_l4Terms.f (k + 1) a0 a1) := (spec_l4Terms.mono_t k (spec_l4Terms.mono_l k)).2 a0 a1
set_option maxHeartbeats 8000000 in
set_option maxRecDepth 100000 in
theorem spec_l4Terms.calls (k : Nat) (a0_0 : Int) (a0_1 : Int) (r : List Int) (w : World) (h : spec_l4Terms.f k a0_0 a0_1 = some r) :
  Calls Tryz.prog 129 #[.agg #[.int .i64 a0_0, .int .i64 a0_1]] w fun e w' => ∃ v0_ : Value, e = .returned (v0_) ∧ Kd.R (Kd.int .i64) 3 w' w.heap.size (fun _ => True) v0_ r ∧ Below w.heap.size w w' := by
 have hu31 := Tryz.underlying31
 have HB := Aside0.mk (Below.refl w.heap.size w)
 unfold spec_l4Terms.f at h
 have H := h
 clear h
 obtain ⟨y570, hy570⟩ : ∃ y_ : List Int, y_ = (([] : List Int)) := ⟨_, rfl⟩
 replace H : (spec_l4Terms.l0 k y570 a0_0 a0_1) = some r := sqW hy570 H
 have Ny570 := Aside0.mk hy570
 clear hy570
 have H' := Aside0.mk H
 clear H
 go_enter Tryz.func129, Tryz.ntmps129
 go_wp2_with (first | ((with_reducible refine gate_dst (N := 1) rfl ?_); refine sqBx w (sqB HB) (N := 1) (cs := #[.int .i64 a0_0, .int .i64 a0_1]) (t := 31) ?_; intro gb569 hg w2 BK569 GE569 HB hb; clear hb hg) | ((with_reducible refine gate_dst (N := 6) rfl ?_); refine Kd.R_lit (Kd.int .i64) _ 3 ?hg (N := 6) ?hd (xs := ([] : List Int)) (inner := []) (ok := fun _ => True) (okp := fun _ => True) ?hr ?hp (fun _ hk => hk) trivial (Below.refl _ _) (Nat.le_refl _) (by simp) ?_; (case hd => rfl); (case hg => rfl); (case hr => exact Z21); (case hp => exact Z22); intro v571 w3 ho4 hb hg_ hnew_; clear hg_ hnew_; (first | rw [← Ny570.out] at ho4 | (simp only [Int.reduceToNat] at ho4; rw [← Ny570.out] at ho4)); have HO572 := sqL ho4 (sqB1 HB GE569); replace BK569 := sqT BK569 hb; replace HB := sqS (sqB1 HB GE569) hb; clear hb ho4; obtain ⟨hcz5_0, hcz5_1, hfz5_0, hfz5_1⟩ := sqY2 BK569) | ((with_reducible refine gate_dst (N := 4) rfl ?_); refine sqBx w (sqB1 HB GE569) (N := 4) (cs := #[.int .i64 0, .int .i64 0]) (t := 31) ?_; intro gb573 hg w6 BK573 GE573 HB hb; replace HO572 := sqU HO572 hb; obtain ⟨NB569_573, NB573_569⟩ := sqM hg BK569; replace BK569 := sqT BK569 hb; clear hb hg; have hnb7 := NB573_569.out; have hnc7 := NB569_573.out; obtain ⟨hcz8_0, hcz8_1, hfz8_0, hfz8_1⟩ := sqY2 BK573))
 go_loopg [3] k (fun kq v3 w' => ∃ (x3_1 : List Int) (x574000_1 : Int) (x574001_1 : Int), Aside0 (spec_l4Terms.l0 kq x3_1 x574000_1 x574001_1 = some r) ∧ Aside0 (kq ≤ k) ∧ Aside0 (Kd.R (Kd.int .i64) 3 w' w.heap.size (fun _ => True) v3 x3_1) ∧ Aside0 (w'.heap[gb569]? = some (.cells #[.int .i64 a0_0, .int .i64 a0_1] 31 (0, 0))) ∧ Aside0 (w'.heap[gb573]? = some (.cells #[.int .i64 x574000_1, .int .i64 x574001_1] 31 (0, 0))) ∧ Aside0 (Below w.heap.size w w'))
 case atStart => exact ⟨(y570), (a0_0), (a0_1), H', ⟨Nat.le_refl _⟩, ⟨by (with_reducible repeat (first | apply Kd.R_alloc | apply Kd.R_drewN | apply Kd.R_drew)); exact Kd.R_mono (Kd.R_far (p := ⟨gb573, 1, none⟩) (Kd.R_far (p := ⟨gb573, 0, none⟩) (Kd.R_types HO572.out BK573.out (by decide)) (fun _ hk => hk.2) (.int .i64 a0_0)) (fun _ hk => hk.2) (.int .i64 a0_1)) (fun _ hk => trivial)⟩, ⟨Z10 NB569_573 BK569⟩, ⟨Z5 BK573⟩, ⟨sqB2 HB GE569 GE573⟩⟩
 case round =>
  clear H'
  try clear hcz5_0; try clear hcz5_1; try clear hcz8_0; try clear hcz8_1; try clear hfz5_0; try clear hfz5_1; try clear hfz8_0; try clear hfz8_1
  obtain ⟨x3_1, x574000_1, x574001_1, HA, HK1, HO_3, BK569, BK573, HB⟩ := hrel
  cases gk with
  | zero => exact absurd HA.out (by simp [spec_l4Terms.l0])
  | succ k1 =>
   have H := HA.out
   clear HA
   simp only [spec_l4Terms.l0] at H
   by_cases c9 : x574001_1 > 0
   ·rw [if_pos c9] at H
    have c9b0 : decide (0 < x574001_1) = true := decide_eq_true c9
    clear c9
    obtain ⟨t574, A10, H⟩ := sqD H
    obtain ⟨c11, H⟩ := sqI H
    have LMc11 := Aside0.mk c11
    clear c11
    obtain ⟨y575, hy575⟩ : ∃ y_ : List Int, y_ = (x3_1 ++ [t574]) := ⟨_, rfl⟩
    replace H : (spec_l4Terms.l0 k1 y575 x574001_1 (wrap64 ((wrap64 (t574 * x574001_1)) - x574000_1))) = some r := sqW hy575 H
    have Ny575 := Aside0.mk hy575
    clear hy575
    have H' := Aside0.mk H
    clear H
    have hnb12 := NB573_569.out
    have hnc12 := NB569_573.out
    obtain ⟨hcz13_0, hcz13_1, hfz13_0, hfz13_1⟩ := sqY2 BK573
    go_wp2_with (first | ((with_reducible refine gate_callee (f := 153) rfl ?_); refine sqC (some 12) Tryz.func153 #[.agg #[.int .i64 x574000_1, .int .i64 x574001_1]] ?_; (with_reducible refine (spec_l4Over.calls x574000_1 x574001_1 t574 _ A10.out).mono ?_); rintro e w14 ⟨rfl, hb⟩; refine ⟨_, rfl, ?_⟩; replace HO_3 := sqU HO_3 hb; replace BK569 := sqT BK569 hb; replace BK573 := sqT BK573 hb; replace HB := sqS (sqB2 HB GE569 GE573) hb; (try clear hb)) | ((with_reducible refine gate_builtin (b := .append) (xs := #[.tmp 13, .tmp 15]) rfl ?_); at_builtin; refine Kd.R_append (Kd.int .i64) (w0 := w) w.heap.size rfl (.tmp 13) (.tmp 15) 109 3 (.int .i64 0) 8 rfl Tryz.underlying109 info3 rfl (by decide) (by omega) u3 x3_1 t574 [.int .i64 t574] (fun _ => True) (fun _ => False) rfl rfl ?aP (fun _ hk => hk.elim) ?aF ?aO ?aB ?aS ?aL ?_; (case aP => exact rfl); (case aB => exact (sqB2 HB GE569 GE573)); (case aF => exact Z23); (case aO => exact (sqR HO_3)); (case aS => exact (below_size (sqB2 HB GE569 GE573))); (case aL => exact Z3 LMc11); intro v576 w15 ho hb hg hat; rw [← Ny575.out] at ho; replace BK569 := Aside0.mk (blk_grown (sqK BK569) hg (Kd.R_ne HO_3.out BK569.out (by decide))); replace BK573 := Aside0.mk (blk_grown (sqK BK573) hg (Kd.R_ne HO_3.out BK573.out (by decide))); replace HB := Aside0.mk (hb); have HO577 := Aside0.mk (ho); clear HO_3; clear ho hb hg hat; obtain ⟨hcz16_0, hcz16_1, hfz16_0, hfz16_1⟩ := sqY2 BK573))
    go_roundg k1
    case measure => have := HK1.out; omega
    case rel => exact ⟨(y575), (x574001_1), (wrap64 ((wrap64 (t574 * x574001_1)) - x574000_1)), H', ⟨Z3 HK1⟩, ⟨by (with_reducible repeat (first | apply Kd.R_alloc | apply Kd.R_drewN | apply Kd.R_drew)); exact Kd.R_mono (Kd.R_far (p := ⟨gb573, 1, none⟩) (Kd.R_far (p := ⟨gb573, 0, none⟩) (Kd.R_types HO577.out BK573.out (by decide)) (fun _ hk => hk.2) (.int .i64 x574001_1)) (fun _ hk => hk.2) (.int .i64 (wrap64 ((wrap64 (t574 * x574001_1)) - x574000_1)))) (fun _ hk => trivial)⟩, ⟨Z10 NB569_573 BK569⟩, ⟨by refine sqPut (cs := #[.int .i64 x574001_1, .int .i64 x574001_1]) ?_ 1; refine sqPut (cs := #[.int .i64 x574000_1, .int .i64 x574001_1]) ?_ 0; exact sqK BK573⟩, ⟨sqB2 HB GE569 GE573⟩⟩
   rw [if_neg c9] at H
   have c9b0 : decide (0 < x574001_1) = false := decide_eq_false c9
   clear c9
   obtain rfl := Option.some.inj H
   have hnb17 := NB573_569.out
   have hnc17 := NB569_573.out
   obtain ⟨hcz18_0, hcz18_1, hfz18_0, hfz18_1⟩ := sqY2 BK573
   go_wp2
   go_ret
   exact ⟨_, Z6, Z35 HO_3, sqB2 HB GE569 GE573⟩

/-! ### spec_TermsOf: function 91 -/
def spec_TermsOf.f (k : Nat) (a0_0 : Int) (a0_1 : Int) : Option (List Int × Bool) := (spec_FractionOk.f k a0_0 a0_1).bind fun t579 => (if t579 = true then ((spec_l1In.f a0_0 (-60) 60).bind fun t580 => (if t580 = true then ((spec_l1In.f a0_1 1 60).bind fun t581 => (if t581 = true then ((spec_l4Terms.f k a0_0 a0_1).bind fun t582 => (some (t582, true))) else (some ((([] : List Int)), false)))) else (some ((([] : List Int)), false)))) else (some ((([] : List Int)), false)))
theorem spec_TermsOf.mono : ∀ a0 a1 k, LeO (spec_TermsOf.f k a0 a1) (spec_TermsOf.f (k + 1) a0 a1) := by
 intro a0 a1 k
 unfold spec_TermsOf.f
 repeat' (with_reducible first | exact spec_FractionOk.mono _ _ _ | exact spec_l4Terms.mono _ _ _ | exact LeO.refl _ | exact LeO.none _ | refine LeO.ite ?_ ?_ | refine LeO.bind ?_ fun _ => ?_)
set_option maxHeartbeats 8000000 in
set_option maxRecDepth 100000 in
theorem spec_TermsOf.calls (k : Nat) (a0_0 : Int) (a0_1 : Int) (r1 : List Int) (r2 : Bool) (w : World) (h : spec_TermsOf.f k a0_0 a0_1 = some (r1, r2)) :
  Calls Tryz.prog 91 #[.agg #[.int .i64 a0_0, .int .i64 a0_1]] w fun e w' => ∃ v0_ : Value, e = .returned (.tuple #[v0_, .bool r2]) ∧ Kd.R (Kd.int .i64) 3 w' w.heap.size (fun _ => True) v0_ r1 ∧ Below w.heap.size w w' := by
 have hu31 := Tryz.underlying31
 have HB := Aside0.mk (Below.refl w.heap.size w)
 unfold spec_TermsOf.f at h
 have H := h
 clear h
 obtain ⟨t579, A2, H⟩ := sqD H
 by_cases c3 : t579 = true
 ·subst c3
  rw [if_pos rfl] at H
  obtain ⟨t580, A4, H⟩ := sqD H
  by_cases c5 : t580 = true
  ·subst c5
   rw [if_pos rfl] at H
   obtain ⟨t581, A6, H⟩ := sqD H
   by_cases c7 : t581 = true
   ·subst c7
    rw [if_pos rfl] at H
    obtain ⟨t582, A8, H⟩ := sqD H
    obtain ⟨rfl, rfl⟩ := sqO2 H
    go_enter Tryz.func91, Tryz.ntmps91
    go_wp2_with (first | ((with_reducible refine gate_dst (N := 1) rfl ?_); refine sqBx w (sqB HB) (N := 1) (cs := #[.int .i64 a0_0, .int .i64 a0_1]) (t := 31) ?_; intro gb578 hg w9 BK578 GE578 HB hb; clear hb hg; obtain ⟨hcz10_0, hcz10_1, hfz10_0, hfz10_1⟩ := sqY2 BK578) | ((with_reducible refine gate_callee (f := 77) rfl ?_); refine sqC (some 5) Tryz.func77 #[.agg #[.int .i64 a0_0, .int .i64 a0_1]] ?_; (with_reducible refine (spec_FractionOk.calls k a0_0 a0_1 true _ A2.out).mono ?_); rintro e w11 ⟨rfl, hb⟩; refine ⟨_, rfl, ?_⟩; replace BK578 := sqT BK578 hb; replace HB := sqS (sqB1 HB GE578) hb; (try clear hb); obtain ⟨hcz12_0, hcz12_1, hfz12_0, hfz12_1⟩ := sqY2 BK578) | (go_at_call 101; (with_reducible refine (spec_l1In.calls a0_0 (-60) 60 true _ A4.out).mono ?_); rintro e w' ⟨rfl, ⟨nd, rfl⟩⟩) | (go_at_call 101; (with_reducible refine (spec_l1In.calls a0_1 1 60 true _ A6.out).mono ?_); rintro e w' ⟨rfl, ⟨nd, rfl⟩⟩) | ((with_reducible refine gate_callee (f := 129) rfl ?_); refine sqC (some 21) Tryz.func129 #[.agg #[.int .i64 a0_0, .int .i64 a0_1]] ?_; (with_reducible refine (spec_l4Terms.calls k a0_0 a0_1 t582 _ A8.out).mono ?_); rintro e w13 ⟨v583, rfl, ho0, hb⟩; refine ⟨_, rfl, ?_⟩; have HO584 := sqL ho0 (sqB1 HB GE578); replace BK578 := sqT BK578 hb; replace HB := sqS (sqB1 HB GE578) hb; (try clear hb); (try clear ho0)))
    go_ret2
    exact ⟨_, Z6, Z35 HO584, sqB1 HB GE578⟩
   replace c7 := Bool.eq_false_iff.mpr c7
   subst c7
   rw [if_neg sqF] at H
   obtain ⟨y585, hy585⟩ : ∃ y_ : List Int, y_ = (([] : List Int)) := ⟨_, rfl⟩
   replace H : (some (y585, false)) = some (r1, r2) := sqW hy585 H
   have Ny585 := Aside0.mk hy585
   clear hy585
   obtain ⟨rfl, rfl⟩ := sqO2 H
   go_enter Tryz.func91, Tryz.ntmps91
   go_wp2_with (first | ((with_reducible refine gate_dst (N := 1) rfl ?_); refine sqBx w (sqB HB) (N := 1) (cs := #[.int .i64 a0_0, .int .i64 a0_1]) (t := 31) ?_; intro gb578 hg w14 BK578 GE578 HB hb; clear hb hg; obtain ⟨hcz15_0, hcz15_1, hfz15_0, hfz15_1⟩ := sqY2 BK578) | ((with_reducible refine gate_callee (f := 77) rfl ?_); refine sqC (some 5) Tryz.func77 #[.agg #[.int .i64 a0_0, .int .i64 a0_1]] ?_; (with_reducible refine (spec_FractionOk.calls k a0_0 a0_1 true _ A2.out).mono ?_); rintro e w16 ⟨rfl, hb⟩; refine ⟨_, rfl, ?_⟩; replace BK578 := sqT BK578 hb; replace HB := sqS (sqB1 HB GE578) hb; (try clear hb); obtain ⟨hcz17_0, hcz17_1, hfz17_0, hfz17_1⟩ := sqY2 BK578) | (go_at_call 101; (with_reducible refine (spec_l1In.calls a0_0 (-60) 60 true _ A4.out).mono ?_); rintro e w' ⟨rfl, ⟨nd, rfl⟩⟩) | (go_at_call 101; (with_reducible refine (spec_l1In.calls a0_1 1 60 false _ A6.out).mono ?_); rintro e w' ⟨rfl, ⟨nd, rfl⟩⟩) | ((with_reducible refine gate_dst (N := 19) rfl ?_); refine Kd.R_lit (Kd.int .i64) _ 3 ?hg (N := 19) ?hd (xs := ([] : List Int)) (inner := []) (ok := fun _ => True) (okp := fun _ => True) ?hr ?hp (fun _ hk => hk) trivial (Below.refl _ _) (Nat.le_refl _) (by simp) ?_; (case hd => rfl); (case hg => rfl); (case hr => exact Z21); (case hp => exact Z22); intro v586 w18 ho19 hb hg_ hnew_; clear hg_ hnew_; (first | rw [← Ny585.out] at ho19 | (simp only [Int.reduceToNat] at ho19; rw [← Ny585.out] at ho19)); have HO587 := sqL ho19 (sqB1 HB GE578); replace BK578 := sqT BK578 hb; replace HB := sqS (sqB1 HB GE578) hb; clear hb ho19))
   go_ret2
   exact ⟨_, Z6, Z35 HO587, sqB1 HB GE578⟩
  replace c5 := Bool.eq_false_iff.mpr c5
  subst c5
  rw [if_neg sqF] at H
  obtain ⟨y588, hy588⟩ : ∃ y_ : List Int, y_ = (([] : List Int)) := ⟨_, rfl⟩
  replace H : (some (y588, false)) = some (r1, r2) := sqW hy588 H
  have Ny588 := Aside0.mk hy588
  clear hy588
  obtain ⟨rfl, rfl⟩ := sqO2 H
  go_enter Tryz.func91, Tryz.ntmps91
  go_wp2_with (first | ((with_reducible refine gate_dst (N := 1) rfl ?_); refine sqBx w (sqB HB) (N := 1) (cs := #[.int .i64 a0_0, .int .i64 a0_1]) (t := 31) ?_; intro gb578 hg w20 BK578 GE578 HB hb; clear hb hg; obtain ⟨hcz21_0, hcz21_1, hfz21_0, hfz21_1⟩ := sqY2 BK578) | ((with_reducible refine gate_callee (f := 77) rfl ?_); refine sqC (some 5) Tryz.func77 #[.agg #[.int .i64 a0_0, .int .i64 a0_1]] ?_; (with_reducible refine (spec_FractionOk.calls k a0_0 a0_1 true _ A2.out).mono ?_); rintro e w22 ⟨rfl, hb⟩; refine ⟨_, rfl, ?_⟩; replace BK578 := sqT BK578 hb; replace HB := sqS (sqB1 HB GE578) hb; (try clear hb); obtain ⟨hcz23_0, hcz23_1, hfz23_0, hfz23_1⟩ := sqY2 BK578) | (go_at_call 101; (with_reducible refine (spec_l1In.calls a0_0 (-60) 60 false _ A4.out).mono ?_); rintro e w' ⟨rfl, ⟨nd, rfl⟩⟩) | ((with_reducible refine gate_dst (N := 19) rfl ?_); refine Kd.R_lit (Kd.int .i64) _ 3 ?hg (N := 19) ?hd (xs := ([] : List Int)) (inner := []) (ok := fun _ => True) (okp := fun _ => True) ?hr ?hp (fun _ hk => hk) trivial (Below.refl _ _) (Nat.le_refl _) (by simp) ?_; (case hd => rfl); (case hg => rfl); (case hr => exact Z21); (case hp => exact Z22); intro v589 w24 ho25 hb hg_ hnew_; clear hg_ hnew_; (first | rw [← Ny588.out] at ho25 | (simp only [Int.reduceToNat] at ho25; rw [← Ny588.out] at ho25)); have HO590 := sqL ho25 (sqB1 HB GE578); replace BK578 := sqT BK578 hb; replace HB := sqS (sqB1 HB GE578) hb; clear hb ho25))
  go_ret2
  exact ⟨_, Z6, Z35 HO590, sqB1 HB GE578⟩
 replace c3 := Bool.eq_false_iff.mpr c3
 subst c3
 rw [if_neg sqF] at H
 obtain ⟨y591, hy591⟩ : ∃ y_ : List Int, y_ = (([] : List Int)) := ⟨_, rfl⟩
 replace H : (some (y591, false)) = some (r1, r2) := sqW hy591 H
 have Ny591 := Aside0.mk hy591
 clear hy591
 obtain ⟨rfl, rfl⟩ := sqO2 H
 go_enter Tryz.func91, Tryz.ntmps91
 go_wp2_with (first | ((with_reducible refine gate_dst (N := 1) rfl ?_); refine sqBx w (sqB HB) (N := 1) (cs := #[.int .i64 a0_0, .int .i64 a0_1]) (t := 31) ?_; intro gb578 hg w26 BK578 GE578 HB hb; clear hb hg; obtain ⟨hcz27_0, hcz27_1, hfz27_0, hfz27_1⟩ := sqY2 BK578) | ((with_reducible refine gate_callee (f := 77) rfl ?_); refine sqC (some 5) Tryz.func77 #[.agg #[.int .i64 a0_0, .int .i64 a0_1]] ?_; (with_reducible refine (spec_FractionOk.calls k a0_0 a0_1 false _ A2.out).mono ?_); rintro e w28 ⟨rfl, hb⟩; refine ⟨_, rfl, ?_⟩; replace BK578 := sqT BK578 hb; replace HB := sqS (sqB1 HB GE578) hb; (try clear hb)) | ((with_reducible refine gate_dst (N := 19) rfl ?_); refine Kd.R_lit (Kd.int .i64) _ 3 ?hg (N := 19) ?hd (xs := ([] : List Int)) (inner := []) (ok := fun _ => True) (okp := fun _ => True) ?hr ?hp (fun _ hk => hk) trivial (Below.refl _ _) (Nat.le_refl _) (by simp) ?_; (case hd => rfl); (case hg => rfl); (case hr => exact Z21); (case hp => exact Z22); intro v592 w29 ho30 hb hg_ hnew_; clear hg_ hnew_; (first | rw [← Ny591.out] at ho30 | (simp only [Int.reduceToNat] at ho30; rw [← Ny591.out] at ho30)); have HO593 := sqL ho30 (sqB1 HB GE578); replace BK578 := sqT BK578 hb; replace HB := sqS (sqB1 HB GE578) hb; clear hb ho30))
 go_ret2
 exact ⟨_, Z6, Z35 HO593, sqB1 HB GE578⟩

/-! ### spec_l11Row: function 92 -/
def spec_l11Row.l0 : Nat → List Int → ByteArray → Int → Option (ByteArray)
 | 0, _, _, _ => none
 | k + 1, x0, x3, x4 => if x4 < (x0.length : Int) then (if x4 > 0 then (if x3.size + 1 ≤ 9223372036854775807 then (if 0 ≤ x4 then ((spec_l1Number.f k (rd x0 x4)).bind fun t595 => (if (x3 ++ (⟨#[44]⟩ : ByteArray)).size + t595.size ≤ 9223372036854775807 then (spec_l11Row.l0 k x0 ((x3 ++ (⟨#[44]⟩ : ByteArray)) ++ t595) (wrap64 (x4 + 1))) else (none))) else (none)) else (none)) else (if 0 ≤ x4 then ((spec_l1Number.f k (rd x0 x4)).bind fun t597 => (if x3.size + t597.size ≤ 9223372036854775807 then (spec_l11Row.l0 k x0 (x3 ++ t597) (wrap64 (x4 + 1))) else (none))) else (none))) else (if (x0.length : Int) = 0 then (some (⟨#[110, 111, 110, 101]⟩ : ByteArray)) else (some x3))
def spec_l11Row.f (k : Nat) (l0 : List Int) : Option (ByteArray) := spec_l11Row.l0 k l0 (⟨#[]⟩ : ByteArray) 0
abbrev spec_l11Row.M (k : Nat) : Prop := (∀ y0 y1 y2, LeO (spec_l11Row.l0 k y0 y1 y2) (spec_l11Row.l0 (k + 1) y0 y1 y2))
theorem spec_l11Row.mono_t : ∀ k, spec_l11Row.M k → spec_l11Row.M (k + 1) ∧ ∀ a0, LeO (spec_l11Row.f k a0) (spec_l11Row.f (k + 1) a0) := by
  rintro k ih0
  refine ⟨?_, ?_⟩ <;> (try unfold spec_l11Row.M) <;> intros <;> (first | unfold spec_l11Row.l0 | unfold spec_l11Row.f) <;> repeat' (with_reducible first | exact ih0 _ _ _ | exact spec_l1Number.mono _ _ | exact LeO.refl _ | exact LeO.none _ | refine LeO.ite ?_ ?_ | refine LeO.bind ?_ fun _ => ?_)
theorem spec_l11Row.mono_l : ∀ k, spec_l11Row.M k
 | 0 => fun _ _ _ r h => by simp [spec_l11Row.l0] at h
 | k + 1 => (spec_l11Row.mono_t k (spec_l11Row.mono_l k)).1
theorem spec_l11Row.mono a0 k : LeO (spec_l11Row.f k a0) (spec_l11Row.f (k + 1) a0) := (spec_l11Row.mono_t k (spec_l11Row.mono_l k)).2 a0
set_option maxHeartbeats 8000000 in
set_option maxRecDepth 100000 in
theorem spec_l11Row.calls (k : Nat) (A0 : Option Addr) (c0 : Nat) (l0 : List Int) (r : ByteArray) (w : World) (hr0 : Kd.C (Kd.int .i64) w A0 l0.length l0) (hc0 : l0.length ≤ c0) (h : spec_l11Row.f k l0 = some r) :
  Calls Tryz.prog 92 #[.slice A0 l0.length c0] w fun e w' => e = .returned (.string r) ∧ Below w.heap.size w w' := by
 have HR0 := Aside0.mk hr0
 have HC0 := Aside0.mk hc0
 clear hr0 hc0
 have HB := Aside0.mk (Below.refl w.heap.size w)
 unfold spec_l11Row.f at h
 have H := h
 clear h
 have H' := Aside0.mk H
 clear H
 go_enter Tryz.func92, Tryz.ntmps92
 go_wp2
 go_loopg [3, 4] k (fun kq v3 v4 w' => ∃ (x3_1 : ByteArray) (x4_1 : Int), v3 = .string x3_1 ∧ v4 = .int .i64 x4_1 ∧ Aside0 (spec_l11Row.l0 kq l0 x3_1 x4_1 = some r) ∧ Aside0 (kq ≤ k) ∧ Aside0 (Below w.heap.size w w'))
 case atStart => exact ⟨((⟨#[]⟩ : ByteArray)), (0), Z2, Z2, H', ⟨Nat.le_refl _⟩, ⟨sqB HB⟩⟩
 case round =>
  clear H'
  obtain ⟨x3_1, x4_1, rfl, rfl, HA, HK1, HB⟩ := hrel
  cases gk with
  | zero => exact absurd HA.out (by simp [spec_l11Row.l0])
  | succ k1 =>
   have H := HA.out
   clear HA
   simp only [spec_l11Row.l0] at H
   by_cases c2 : x4_1 < (l0.length : Int)
   ·rw [if_pos c2] at H
    have c2b0 : decide (x4_1 < (l0.length : Int)) = true := decide_eq_true c2
    clear c2
    by_cases c3 : x4_1 > 0
    ·rw [if_pos c3] at H
     have c3b0 : decide (0 < x4_1) = true := decide_eq_true c3
     clear c3
     obtain ⟨c4, H⟩ := sqI H
     have c4b0 := eq_true c4
     have c4b1 : decide (x3_1.size + 1 ≤ 9223372036854775807) = true := decide_eq_true c4
     try have c4b2 : (9223372036854775807 < x3_1.size + 1) = False := eq_false (Nat.not_lt.2 c4)
     obtain ⟨c5, H⟩ := sqI H
     have c5b0 : decide (0 ≤ x4_1) = true := decide_eq_true c5
     clear c5
     obtain ⟨t595, A6, H⟩ := sqD H
     obtain ⟨c7, H⟩ := sqI H
     have c7b0 := eq_true c7
     have c7b1 : decide ((x3_1 ++ (⟨#[44]⟩ : ByteArray)).size + t595.size ≤ 9223372036854775807) = true := decide_eq_true c7
     try have c7b2 : (9223372036854775807 < (x3_1 ++ (⟨#[44]⟩ : ByteArray)).size + t595.size) = False := eq_false (Nat.not_lt.2 c7)
     try have c7b7 : (9223372036854775807 < x3_1.size + 1 + t595.size) = False := by (have h_ := c7b2; (repeat rw [ByteArray.size_append] at h_); exact h_)
     have H' := Aside0.mk H
     clear H
     have p594 : 0 ≤ (x4_1 : Int) := of_decide_eq_true Z20
     have q594 : x4_1 < (l0.length : Int) := of_decide_eq_true Z20
     obtain ⟨ad594, e594, hx594_0⟩ := Kd.at_int HR0.out x4_1 p594 q594
     cases e594
     replace hx594_0 := (HB.out.cell (World.block_lt_of_cell? w _ hx594_0)).trans hx594_0
     replace p594 := eq_true p594
     replace q594 := eq_true q594
     go_wp2_with (first | ((with_reducible refine gate_callee (f := 93) rfl ?_); refine sqC (some 20) Tryz.func93 #[.int .i64 (rd l0 x4_1)] ?_; (with_reducible refine (spec_l1Number.calls k1 (rd l0 x4_1) t595 _ A6.out).mono ?_); rintro e w8 ⟨rfl, hb⟩; refine ⟨_, rfl, ?_⟩; replace HB := sqS (sqB HB) hb; (try clear hb)))
     go_roundg k1
     case measure => have := HK1.out; omega
     case rel => exact ⟨((x3_1 ++ (⟨#[44]⟩ : ByteArray)) ++ t595), (wrap64 (x4_1 + 1)), Z2, Z2, H', ⟨Z3 HK1⟩, ⟨sqB HB⟩⟩
    rw [if_neg c3] at H
    have c3b0 : decide (0 < x4_1) = false := decide_eq_false c3
    clear c3
    obtain ⟨c9, H⟩ := sqI H
    have c9b0 : decide (0 ≤ x4_1) = true := decide_eq_true c9
    clear c9
    obtain ⟨t597, A10, H⟩ := sqD H
    obtain ⟨c11, H⟩ := sqI H
    have c11b0 := eq_true c11
    have c11b1 : decide (x3_1.size + t597.size ≤ 9223372036854775807) = true := decide_eq_true c11
    try have c11b2 : (9223372036854775807 < x3_1.size + t597.size) = False := eq_false (Nat.not_lt.2 c11)
    have H' := Aside0.mk H
    clear H
    have p596 : 0 ≤ (x4_1 : Int) := of_decide_eq_true Z20
    have q596 : x4_1 < (l0.length : Int) := of_decide_eq_true Z20
    obtain ⟨ad596, e596, hx596_0⟩ := Kd.at_int HR0.out x4_1 p596 q596
    cases e596
    replace hx596_0 := (HB.out.cell (World.block_lt_of_cell? w _ hx596_0)).trans hx596_0
    replace p596 := eq_true p596
    replace q596 := eq_true q596
    go_wp2_with (first | ((with_reducible refine gate_callee (f := 93) rfl ?_); refine sqC (some 20) Tryz.func93 #[.int .i64 (rd l0 x4_1)] ?_; (with_reducible refine (spec_l1Number.calls k1 (rd l0 x4_1) t597 _ A10.out).mono ?_); rintro e w12 ⟨rfl, hb⟩; refine ⟨_, rfl, ?_⟩; replace HB := sqS (sqB HB) hb; (try clear hb)))
    go_roundg k1
    case measure => have := HK1.out; omega
    case rel => exact ⟨(x3_1 ++ t597), (wrap64 (x4_1 + 1)), Z2, Z2, H', ⟨Z3 HK1⟩, ⟨sqB HB⟩⟩
   rw [if_neg c2] at H
   have c2b0 : decide (x4_1 < (l0.length : Int)) = false := decide_eq_false c2
   clear c2
   by_cases c13 : (l0.length : Int) = 0
   ·rw [if_pos c13] at H
    have c13b0 : ((l0.length : Int) == 0) = true := beq_iff_eq.mpr c13
    have c13b1 : ((l0.length : Int) != 0) = false := bne_eq_false_iff_eq.mpr c13
    clear c13
    obtain rfl := Option.some.inj H
    go_wp2
    go_ret
    exact ⟨Z6, sqB HB⟩
   rw [if_neg c13] at H
   have c13b0 : ((l0.length : Int) == 0) = false := beq_eq_false_iff_ne.mpr c13
   have c13b1 : ((l0.length : Int) != 0) = true := bne_iff_ne.mpr c13
   have c13b2 : ¬ (l0 = []) := fun h_ => c13 (by rw [h_]; rfl)
   obtain rfl := Option.some.inj H
   go_wp2
   go_ret
   exact ⟨Z6, sqB HB⟩

/-! ### spec_QuotientsOf: function 130 -/
def spec_QuotientsOf.l0 : Nat → List Int → Int → Int → Int → Int → Option (List Int)
 | 0, _, _, _, _, _ => none
 | k + 1, x3, x4, x5, x599000, x599001 => if x5 > 0 then ((spec_FractionOk.f k x599000 x599001).bind fun t602 => (if t602 = true then (if x5 = 0 then (none) else (if x3.length < 17592186044416 then (spec_QuotientsOf.l0 k (x3 ++ [wrap64 (Int.tdiv x4 x5)]) x5 (Int.tmod x4 x5) x599000 x599001) else (none))) else (some x3))) else (some x3)
def spec_QuotientsOf.f (k : Nat) (a0_0 : Int) (a0_1 : Int) : Option (List Int) := spec_QuotientsOf.l0 k (([] : List Int)) (mx a0_0 (wrap64 (-a0_0))) a0_1 a0_0 a0_1
abbrev spec_QuotientsOf.M (k : Nat) : Prop := (∀ y0 y1 y2 y3 y4, LeO (spec_QuotientsOf.l0 k y0 y1 y2 y3 y4) (spec_QuotientsOf.l0 (k + 1) y0 y1 y2 y3 y4))
theorem spec_QuotientsOf.mono_t : ∀ k, spec_QuotientsOf.M k → spec_QuotientsOf.M (k + 1) ∧ ∀ a0 a1, LeO (spec_QuotientsOf.f k a0 a1) (spec_QuotientsOf.f (k + 1) a0 a1) := by
  rintro k ih0
  refine ⟨?_, ?_⟩ <;> (try unfold spec_QuotientsOf.M) <;> intros <;> (first | unfold spec_QuotientsOf.l0 | unfold spec_QuotientsOf.f) <;> repeat' (with_reducible first | exact ih0 _ _ _ _ _ | exact spec_FractionOk.mono _ _ _ | exact LeO.refl _ | exact LeO.none _ | refine LeO.ite ?_ ?_ | refine LeO.bind ?_ fun _ => ?_)
theorem spec_QuotientsOf.mono_l : ∀ k, spec_QuotientsOf.M k
 | 0 => fun _ _ _ _ _ r h => by simp [spec_QuotientsOf.l0] at h
 | k + 1 => (spec_QuotientsOf.mono_t k (spec_QuotientsOf.mono_l k)).1
theorem spec_QuotientsOf.mono a0 a1 k : LeO (spec_QuotientsOf.f k a0 a1) (spec_QuotientsOf.f (k + 1) a0 a1) := (spec_QuotientsOf.mono_t k (spec_QuotientsOf.mono_l k)).2 a0 a1
set_option maxHeartbeats 8000000 in
set_option maxRecDepth 100000 in
theorem spec_QuotientsOf.calls (k : Nat) (a0_0 : Int) (a0_1 : Int) (r : List Int) (w : World) (h : spec_QuotientsOf.f k a0_0 a0_1 = some r) :
  Calls Tryz.prog 130 #[.agg #[.int .i64 a0_0, .int .i64 a0_1]] w fun e w' => ∃ v0_ : Value, e = .returned (v0_) ∧ Kd.R (Kd.int .i64) 3 w' w.heap.size (fun _ => True) v0_ r ∧ Below w.heap.size w w' := by
 have hu31 := Tryz.underlying31
 have HB := Aside0.mk (Below.refl w.heap.size w)
 unfold spec_QuotientsOf.f at h
 have H := h
 clear h
 obtain ⟨y599, hy599⟩ : ∃ y_ : List Int, y_ = (([] : List Int)) := ⟨_, rfl⟩
 replace H : (spec_QuotientsOf.l0 k y599 (mx a0_0 (wrap64 (-a0_0))) a0_1 a0_0 a0_1) = some r := sqW hy599 H
 have Ny599 := Aside0.mk hy599
 clear hy599
 obtain ⟨ji2, hji2⟩ : ∃ j_ : Int, (mx a0_0 (wrap64 (-a0_0))) = j_ := ⟨_, rfl⟩
 replace H : (spec_QuotientsOf.l0 k y599 ji2 a0_1 a0_0 a0_1) = some r := by first | (rw [hji2] at H; exact H) | (simp only [hji2] at H ⊢; exact H)
 have hji2_ : (if a0_0 < (wrap64 (-a0_0)) then (wrap64 (-a0_0)) else a0_0) = ji2 := hji2
 have H' := Aside0.mk H
 clear H
 go_enter Tryz.func130, Tryz.ntmps130
 go_wp2_with (first | ((with_reducible refine gate_dst (N := 1) rfl ?_); refine sqBx w (sqB HB) (N := 1) (cs := #[.int .i64 a0_0, .int .i64 a0_1]) (t := 31) ?_; intro gb598 hg w3 BK598 GE598 HB hb; clear hb hg) | ((with_reducible refine gate_dst (N := 7) rfl ?_); refine Kd.R_lit (Kd.int .i64) _ 3 ?hg (N := 7) ?hd (xs := ([] : List Int)) (inner := []) (ok := fun _ => True) (okp := fun _ => True) ?hr ?hp (fun _ hk => hk) trivial (Below.refl _ _) (Nat.le_refl _) (by simp) ?_; (case hd => rfl); (case hg => rfl); (case hr => exact Z21); (case hp => exact Z22); intro v600 w4 ho5 hb hg_ hnew_; clear hg_ hnew_; (first | rw [← Ny599.out] at ho5 | (simp only [Int.reduceToNat] at ho5; rw [← Ny599.out] at ho5)); have HO601 := sqL ho5 (sqB1 HB GE598); replace BK598 := sqT BK598 hb; replace HB := sqS (sqB1 HB GE598) hb; clear hb ho5; obtain ⟨hcz6_0, hcz6_1, hfz6_0, hfz6_1⟩ := sqY2 BK598))
 go_loopg [3, 4, 5] k (fun kq v3 v4 v5 w' => ∃ (x3_1 : List Int) (x4_1 : Int) (x5_1 : Int), v4 = .int .i64 x4_1 ∧ v5 = .int .i64 x5_1 ∧ Aside0 (spec_QuotientsOf.l0 kq x3_1 x4_1 x5_1 a0_0 a0_1 = some r) ∧ Aside0 (kq ≤ k) ∧ Aside0 (Kd.R (Kd.int .i64) 3 w' w.heap.size (fun _ => True) v3 x3_1) ∧ Aside0 (w'.heap[gb598]? = some (.cells #[.int .i64 a0_0, .int .i64 a0_1] 31 (0, 0))) ∧ Aside0 (Below w.heap.size w w'))
 case atStart => exact ⟨(y599), (ji2), (a0_1), Z55, Z2, H', ⟨Nat.le_refl _⟩, ⟨sqR HO601⟩, ⟨sqK BK598⟩, ⟨sqB1 HB GE598⟩⟩
 case round =>
  clear H'
  try clear hcz6_0; try clear hcz6_1; try clear hfz6_0; try clear hfz6_1
  obtain ⟨x3_1, x4_1, x5_1, rfl, rfl, HA, HK1, HO_3, BK598, HB⟩ := hrel
  cases gk with
  | zero => exact absurd HA.out (by simp [spec_QuotientsOf.l0])
  | succ k1 =>
   have H := HA.out
   clear HA
   simp only [spec_QuotientsOf.l0] at H
   by_cases c7 : x5_1 > 0
   ·rw [if_pos c7] at H
    have c7b0 : decide (0 < x5_1) = true := decide_eq_true c7
    clear c7
    obtain ⟨t602, A8, H⟩ := sqD H
    by_cases c9 : t602 = true
    ·subst c9
     rw [if_pos rfl] at H
     by_cases c10 : x5_1 = 0
     ·rw [if_pos c10] at H
      exact absurd H (by simp)
     rw [if_neg c10] at H
     have c10b0 : (x5_1 == 0) = false := beq_eq_false_iff_ne.mpr c10
     have c10b1 : (x5_1 != 0) = true := bne_iff_ne.mpr c10
     obtain ⟨c11, H⟩ := sqI H
     have LMc11 := Aside0.mk c11
     clear c11
     obtain ⟨y603, hy603⟩ : ∃ y_ : List Int, y_ = (x3_1 ++ [wrap64 (Int.tdiv x4_1 x5_1)]) := ⟨_, rfl⟩
     replace H : (spec_QuotientsOf.l0 k1 y603 x5_1 (Int.tmod x4_1 x5_1) a0_0 a0_1) = some r := sqW hy603 H
     have Ny603 := Aside0.mk hy603
     clear hy603
     have H' := Aside0.mk H
     clear H
     obtain ⟨hcz12_0, hcz12_1, hfz12_0, hfz12_1⟩ := sqY2 BK598
     go_wp2_with (first | (go_at_call 77; (with_reducible refine (spec_FractionOk.calls k1 a0_0 a0_1 true _ A8.out).mono ?_); rintro e w13 ⟨rfl, hb⟩; replace HO_3 := sqU HO_3 hb; replace BK598 := sqT BK598 hb; replace HB := sqS (sqB1 HB GE598) hb; (try clear hb)) | ((with_reducible refine gate_builtin (b := .append) (xs := #[.tmp 22, .tmp 26]) rfl ?_); at_builtin; refine Kd.R_append (Kd.int .i64) (w0 := w) w.heap.size rfl (.tmp 22) (.tmp 26) 109 3 (.int .i64 0) 8 rfl Tryz.underlying109 info3 rfl (by decide) (by omega) u3 x3_1 (wrap64 (Int.tdiv x4_1 x5_1)) [.int .i64 (wrap64 (Int.tdiv x4_1 x5_1))] (fun _ => True) (fun _ => False) rfl rfl ?aP (fun _ hk => hk.elim) ?aF ?aO ?aB ?aS ?aL ?_; (case aP => exact rfl); (case aB => exact (sqB1 HB GE598)); (case aF => exact Z23); (case aO => exact (sqR HO_3)); (case aS => exact (below_size (sqB1 HB GE598))); (case aL => exact Z3 LMc11); intro v604 w14 ho hb hg hat; rw [← Ny603.out] at ho; replace BK598 := Aside0.mk (blk_grown (sqK BK598) hg (Kd.R_ne HO_3.out BK598.out (by decide))); replace HB := Aside0.mk (hb); have HO605 := Aside0.mk (ho); clear HO_3; clear ho hb hg hat))
     go_roundg k1
     case measure => have := HK1.out; omega
     case rel => exact ⟨(y603), (x5_1), (Int.tmod x4_1 x5_1), Z2, Z2, H', ⟨Z3 HK1⟩, ⟨sqR HO605⟩, ⟨sqK BK598⟩, ⟨sqB1 HB GE598⟩⟩
    replace c9 := Bool.eq_false_iff.mpr c9
    subst c9
    rw [if_neg sqF] at H
    obtain rfl := Option.some.inj H
    obtain ⟨hcz15_0, hcz15_1, hfz15_0, hfz15_1⟩ := sqY2 BK598
    go_wp2_with (first | (go_at_call 77; (with_reducible refine (spec_FractionOk.calls k1 a0_0 a0_1 false _ A8.out).mono ?_); rintro e w16 ⟨rfl, hb⟩; replace HO_3 := sqU HO_3 hb; replace BK598 := sqT BK598 hb; replace HB := sqS (sqB1 HB GE598) hb; (try clear hb)))
    go_ret
    exact ⟨_, Z56, Z35 HO_3, sqB1 HB GE598⟩
   rw [if_neg c7] at H
   have c7b0 : decide (0 < x5_1) = false := decide_eq_false c7
   clear c7
   obtain rfl := Option.some.inj H
   go_wp2
   go_ret
   exact ⟨_, Z56, Z35 HO_3, sqB1 HB GE598⟩

/-! ### spec_CrossingsOf: function 94 -/
def spec_CrossingsOf.l0 : Nat → Int → List Int → Int → Option (Int)
 | 0, _, _, _ => none
 | k + 1, x3, x4, x5 => if x5 < (x4.length : Int) then (if 0 ≤ x5 then (spec_CrossingsOf.l0 k (wrap64 (x3 + (rd x4 x5))) x4 (wrap64 (x5 + 1))) else (none)) else (some x3)
def spec_CrossingsOf.f (k : Nat) (a0_0 : Int) (a0_1 : Int) : Option (Int) := (spec_FractionOk.f k a0_0 a0_1).bind fun t607 => (if t607 = true then ((spec_QuotientsOf.f k a0_0 a0_1).bind fun t608 => (spec_CrossingsOf.l0 k 0 t608 0)) else (some (-1)))
abbrev spec_CrossingsOf.M (k : Nat) : Prop := (∀ y0 y1 y2, LeO (spec_CrossingsOf.l0 k y0 y1 y2) (spec_CrossingsOf.l0 (k + 1) y0 y1 y2))
theorem spec_CrossingsOf.mono_t : ∀ k, spec_CrossingsOf.M k → spec_CrossingsOf.M (k + 1) ∧ ∀ a0 a1, LeO (spec_CrossingsOf.f k a0 a1) (spec_CrossingsOf.f (k + 1) a0 a1) := by
  rintro k ih0
  refine ⟨?_, ?_⟩ <;> (try unfold spec_CrossingsOf.M) <;> intros <;> (first | unfold spec_CrossingsOf.l0 | unfold spec_CrossingsOf.f) <;> repeat' (with_reducible first | exact ih0 _ _ _ | exact spec_FractionOk.mono _ _ _ | exact spec_QuotientsOf.mono _ _ _ | exact LeO.refl _ | exact LeO.none _ | refine LeO.ite ?_ ?_ | refine LeO.bind ?_ fun _ => ?_)
theorem spec_CrossingsOf.mono_l : ∀ k, spec_CrossingsOf.M k
 | 0 => fun _ _ _ r h => by simp [spec_CrossingsOf.l0] at h
 | k + 1 => (spec_CrossingsOf.mono_t k (spec_CrossingsOf.mono_l k)).1
theorem spec_CrossingsOf.mono a0 a1 k : LeO (spec_CrossingsOf.f k a0 a1) (spec_CrossingsOf.f (k + 1) a0 a1) := (spec_CrossingsOf.mono_t k (spec_CrossingsOf.mono_l k)).2 a0 a1
set_option maxHeartbeats 8000000 in
set_option maxRecDepth 100000 in
theorem spec_CrossingsOf.calls (k : Nat) (a0_0 : Int) (a0_1 : Int) (r : Int) (w : World) (h : spec_CrossingsOf.f k a0_0 a0_1 = some r) :
  Calls Tryz.prog 94 #[.agg #[.int .i64 a0_0, .int .i64 a0_1]] w fun e w' => e = .returned (.int .i64 r) ∧ Below w.heap.size w w' := by
 have hu31 := Tryz.underlying31
 have HB := Aside0.mk (Below.refl w.heap.size w)
 unfold spec_CrossingsOf.f at h
 have H := h
 clear h
 obtain ⟨t607, A2, H⟩ := sqD H
 by_cases c3 : t607 = true
 ·subst c3
  rw [if_pos rfl] at H
  obtain ⟨t608, A4, H⟩ := sqD H
  have H' := Aside0.mk H
  clear H
  go_enter Tryz.func94, Tryz.ntmps94
  go_wp2_with (first | ((with_reducible refine gate_dst (N := 1) rfl ?_); refine sqBx w (sqB HB) (N := 1) (cs := #[.int .i64 a0_0, .int .i64 a0_1]) (t := 31) ?_; intro gb606 hg w5 BK606 GE606 HB hb; clear hb hg; obtain ⟨hcz6_0, hcz6_1, hfz6_0, hfz6_1⟩ := sqY2 BK606) | ((with_reducible refine gate_callee (f := 77) rfl ?_); refine sqC (some 7) Tryz.func77 #[.agg #[.int .i64 a0_0, .int .i64 a0_1]] ?_; (with_reducible refine (spec_FractionOk.calls k a0_0 a0_1 true _ A2.out).mono ?_); rintro e w7 ⟨rfl, hb⟩; refine ⟨_, rfl, ?_⟩; replace BK606 := sqT BK606 hb; replace HB := sqS (sqB1 HB GE606) hb; (try clear hb); obtain ⟨hcz8_0, hcz8_1, hfz8_0, hfz8_1⟩ := sqY2 BK606) | ((with_reducible refine gate_callee (f := 130) rfl ?_); refine sqC (some 10) Tryz.func130 #[.agg #[.int .i64 a0_0, .int .i64 a0_1]] ?_; (with_reducible refine (spec_QuotientsOf.calls k a0_0 a0_1 t608 _ A4.out).mono ?_); rintro e w9 ⟨v609, rfl, ho0, hb⟩; refine ⟨_, rfl, ?_⟩; have HO610 := sqL ho0 (sqB1 HB GE606); replace BK606 := sqT BK606 hb; replace HB := sqS (sqB1 HB GE606) hb; (try clear hb); (try clear ho0)))
  go_loopg [3, 5] k (fun kq v3 v5 w' => ∃ (x3_1 : Int) (x5_1 : Int), v3 = .int .i64 x3_1 ∧ v5 = .int .i64 x5_1 ∧ Aside0 (spec_CrossingsOf.l0 kq x3_1 t608 x5_1 = some r) ∧ Aside0 (kq ≤ k) ∧ Aside0 (Kd.R (Kd.int .i64) 3 w' w.heap.size (fun _ => True) v609 t608) ∧ Aside0 (w'.heap[gb606]? = some (.cells #[.int .i64 a0_0, .int .i64 a0_1] 31 (0, 0))) ∧ Aside0 (Below w.heap.size w w'))
  case atStart => exact ⟨(0), (0), Z2, Z2, H', ⟨Nat.le_refl _⟩, ⟨sqR HO610⟩, ⟨sqK BK606⟩, ⟨sqB1 HB GE606⟩⟩
  case round =>
   clear H'
   try clear c3; try clear hcz6_0; try clear hcz6_1; try clear hcz8_0; try clear hcz8_1; try clear hfz6_0; try clear hfz6_1; try clear hfz8_0; try clear hfz8_1
   obtain ⟨x3_1, x5_1, rfl, rfl, HA, HK1, HO_4, BK606, HB⟩ := hrel
   cases gk with
   | zero => exact absurd HA.out (by simp [spec_CrossingsOf.l0])
   | succ k1 =>
    have H := HA.out
    clear HA
    simp only [spec_CrossingsOf.l0] at H
    by_cases c10 : x5_1 < (t608.length : Int)
    ·rw [if_pos c10] at H
     have c10b0 : decide (x5_1 < (t608.length : Int)) = true := decide_eq_true c10
     clear c10
     obtain ⟨c11, H⟩ := sqI H
     have c11b0 : decide (0 ≤ x5_1) = true := decide_eq_true c11
     clear c11
     have H' := Aside0.mk H
     clear H
     obtain ⟨Ao12, co12, eo12⟩ := Kd.R_slice HO_4.out
     subst eo12
     have p611 : 0 ≤ (x5_1 : Int) := of_decide_eq_true Z20
     have q611 : x5_1 < (t608.length : Int) := of_decide_eq_true Z20
     obtain ⟨ad611, e611, hx611_0⟩ := Kd.at_int (Kd.R_reads' HO_4.out).2.2 x5_1 p611 q611
     cases e611
     replace p611 := eq_true p611
     replace q611 := eq_true q611
     go_wp2
     go_roundg k1
     case measure => have := HK1.out; omega
     case rel => exact ⟨(wrap64 (x3_1 + (rd t608 x5_1))), (wrap64 (x5_1 + 1)), Z2, Z2, H', ⟨Z3 HK1⟩, ⟨sqR HO_4⟩, ⟨sqK BK606⟩, ⟨sqB1 HB GE606⟩⟩
    rw [if_neg c10] at H
    have c10b0 : decide (x5_1 < (t608.length : Int)) = false := decide_eq_false c10
    clear c10
    obtain rfl := Option.some.inj H
    obtain ⟨Ao13, co13, eo13⟩ := Kd.R_slice HO_4.out
    subst eo13
    go_wp2
    go_ret
    exact ⟨Z6, sqB1 HB GE606⟩
 replace c3 := Bool.eq_false_iff.mpr c3
 subst c3
 rw [if_neg sqF] at H
 obtain rfl := Option.some.inj H
 go_enter Tryz.func94, Tryz.ntmps94
 go_wp2_with (first | ((with_reducible refine gate_dst (N := 1) rfl ?_); refine sqBx w (sqB HB) (N := 1) (cs := #[.int .i64 a0_0, .int .i64 a0_1]) (t := 31) ?_; intro gb606 hg w14 BK606 GE606 HB hb; clear hb hg; obtain ⟨hcz15_0, hcz15_1, hfz15_0, hfz15_1⟩ := sqY2 BK606) | ((with_reducible refine gate_callee (f := 77) rfl ?_); refine sqC (some 7) Tryz.func77 #[.agg #[.int .i64 a0_0, .int .i64 a0_1]] ?_; (with_reducible refine (spec_FractionOk.calls k a0_0 a0_1 false _ A2.out).mono ?_); rintro e w16 ⟨rfl, hb⟩; refine ⟨_, rfl, ?_⟩; replace BK606 := sqT BK606 hb; replace HB := sqS (sqB1 HB GE606) hb; (try clear hb)))
 go_ret
 exact ⟨Z6, sqB1 HB GE606⟩

/-! ### spec_KindOf: function 131 -/
def spec_KindOf.f (k : Nat) (a0_0 : Int) (a0_1 : Int) : Option (Int) := (spec_FractionOk.f k a0_0 a0_1).bind fun t613 => (if t613 = true then (if (Int.tmod a0_0 2) = 0 then (some 0) else (if (Int.tmod a0_1 2) = 0 then (some 1) else (some 2))) else (some (-1)))
theorem spec_KindOf.mono : ∀ a0 a1 k, LeO (spec_KindOf.f k a0 a1) (spec_KindOf.f (k + 1) a0 a1) := by
 intro a0 a1 k
 unfold spec_KindOf.f
 repeat' (with_reducible first | exact spec_FractionOk.mono _ _ _ | exact LeO.refl _ | exact LeO.none _ | refine LeO.ite ?_ ?_ | refine LeO.bind ?_ fun _ => ?_)
set_option maxHeartbeats 8000000 in
set_option maxRecDepth 100000 in
theorem spec_KindOf.calls (k : Nat) (a0_0 : Int) (a0_1 : Int) (r : Int) (w : World) (h : spec_KindOf.f k a0_0 a0_1 = some r) :
  Calls Tryz.prog 131 #[.agg #[.int .i64 a0_0, .int .i64 a0_1]] w fun e w' => e = .returned (.int .i64 r) ∧ Below w.heap.size w w' := by
 have hu31 := Tryz.underlying31
 have HB := Aside0.mk (Below.refl w.heap.size w)
 unfold spec_KindOf.f at h
 have H := h
 clear h
 obtain ⟨t613, A2, H⟩ := sqD H
 by_cases c3 : t613 = true
 ·subst c3
  rw [if_pos rfl] at H
  by_cases c4 : (Int.tmod a0_0 2) = 0
  ·rw [if_pos c4] at H
   have c4b0 : ((Int.tmod a0_0 2) == 0) = true := beq_iff_eq.mpr c4
   have c4b1 : ((Int.tmod a0_0 2) != 0) = false := bne_eq_false_iff_eq.mpr c4
   clear c4
   obtain rfl := Option.some.inj H
   go_enter Tryz.func131, Tryz.ntmps131
   go_wp2_with (first | ((with_reducible refine gate_dst (N := 1) rfl ?_); refine sqBx w (sqB HB) (N := 1) (cs := #[.int .i64 a0_0, .int .i64 a0_1]) (t := 31) ?_; intro gb612 hg w5 BK612 GE612 HB hb; clear hb hg; obtain ⟨hcz6_0, hcz6_1, hfz6_0, hfz6_1⟩ := sqY2 BK612) | ((with_reducible refine gate_callee (f := 77) rfl ?_); refine sqC (some 5) Tryz.func77 #[.agg #[.int .i64 a0_0, .int .i64 a0_1]] ?_; (with_reducible refine (spec_FractionOk.calls k a0_0 a0_1 true _ A2.out).mono ?_); rintro e w7 ⟨rfl, hb⟩; refine ⟨_, rfl, ?_⟩; replace BK612 := sqT BK612 hb; replace HB := sqS (sqB1 HB GE612) hb; (try clear hb); obtain ⟨hcz8_0, hcz8_1, hfz8_0, hfz8_1⟩ := sqY2 BK612))
   go_ret
   exact ⟨Z6, sqB1 HB GE612⟩
  rw [if_neg c4] at H
  have c4b0 : ((Int.tmod a0_0 2) == 0) = false := beq_eq_false_iff_ne.mpr c4
  have c4b1 : ((Int.tmod a0_0 2) != 0) = true := bne_iff_ne.mpr c4
  by_cases c9 : (Int.tmod a0_1 2) = 0
  ·rw [if_pos c9] at H
   have c9b0 : ((Int.tmod a0_1 2) == 0) = true := beq_iff_eq.mpr c9
   have c9b1 : ((Int.tmod a0_1 2) != 0) = false := bne_eq_false_iff_eq.mpr c9
   clear c9
   obtain rfl := Option.some.inj H
   go_enter Tryz.func131, Tryz.ntmps131
   go_wp2_with (first | ((with_reducible refine gate_dst (N := 1) rfl ?_); refine sqBx w (sqB HB) (N := 1) (cs := #[.int .i64 a0_0, .int .i64 a0_1]) (t := 31) ?_; intro gb612 hg w10 BK612 GE612 HB hb; clear hb hg; obtain ⟨hcz11_0, hcz11_1, hfz11_0, hfz11_1⟩ := sqY2 BK612) | ((with_reducible refine gate_callee (f := 77) rfl ?_); refine sqC (some 5) Tryz.func77 #[.agg #[.int .i64 a0_0, .int .i64 a0_1]] ?_; (with_reducible refine (spec_FractionOk.calls k a0_0 a0_1 true _ A2.out).mono ?_); rintro e w12 ⟨rfl, hb⟩; refine ⟨_, rfl, ?_⟩; replace BK612 := sqT BK612 hb; replace HB := sqS (sqB1 HB GE612) hb; (try clear hb); obtain ⟨hcz13_0, hcz13_1, hfz13_0, hfz13_1⟩ := sqY2 BK612))
   go_ret
   exact ⟨Z6, sqB1 HB GE612⟩
  rw [if_neg c9] at H
  have c9b0 : ((Int.tmod a0_1 2) == 0) = false := beq_eq_false_iff_ne.mpr c9
  have c9b1 : ((Int.tmod a0_1 2) != 0) = true := bne_iff_ne.mpr c9
  obtain rfl := Option.some.inj H
  go_enter Tryz.func131, Tryz.ntmps131
  go_wp2_with (first | ((with_reducible refine gate_dst (N := 1) rfl ?_); refine sqBx w (sqB HB) (N := 1) (cs := #[.int .i64 a0_0, .int .i64 a0_1]) (t := 31) ?_; intro gb612 hg w14 BK612 GE612 HB hb; clear hb hg; obtain ⟨hcz15_0, hcz15_1, hfz15_0, hfz15_1⟩ := sqY2 BK612) | ((with_reducible refine gate_callee (f := 77) rfl ?_); refine sqC (some 5) Tryz.func77 #[.agg #[.int .i64 a0_0, .int .i64 a0_1]] ?_; (with_reducible refine (spec_FractionOk.calls k a0_0 a0_1 true _ A2.out).mono ?_); rintro e w16 ⟨rfl, hb⟩; refine ⟨_, rfl, ?_⟩; replace BK612 := sqT BK612 hb; replace HB := sqS (sqB1 HB GE612) hb; (try clear hb); obtain ⟨hcz17_0, hcz17_1, hfz17_0, hfz17_1⟩ := sqY2 BK612))
  go_ret
  exact ⟨Z6, sqB1 HB GE612⟩
 replace c3 := Bool.eq_false_iff.mpr c3
 subst c3
 rw [if_neg sqF] at H
 obtain rfl := Option.some.inj H
 go_enter Tryz.func131, Tryz.ntmps131
 go_wp2_with (first | ((with_reducible refine gate_dst (N := 1) rfl ?_); refine sqBx w (sqB HB) (N := 1) (cs := #[.int .i64 a0_0, .int .i64 a0_1]) (t := 31) ?_; intro gb612 hg w18 BK612 GE612 HB hb; clear hb hg; obtain ⟨hcz19_0, hcz19_1, hfz19_0, hfz19_1⟩ := sqY2 BK612) | ((with_reducible refine gate_callee (f := 77) rfl ?_); refine sqC (some 5) Tryz.func77 #[.agg #[.int .i64 a0_0, .int .i64 a0_1]] ?_; (with_reducible refine (spec_FractionOk.calls k a0_0 a0_1 false _ A2.out).mono ?_); rintro e w20 ⟨rfl, hb⟩; refine ⟨_, rfl, ?_⟩; replace BK612 := sqT BK612 hb; replace HB := sqS (sqB1 HB GE612) hb; (try clear hb)))
 go_ret
 exact ⟨Z6, sqB1 HB GE612⟩

/-! ### spec_EndsFor: function 95 -/
def spec_EndsFor.f (k : Nat) (a0_0 : Int) (a0_1 : Int) : Option (List Int) := (spec_KindOf.f k a0_0 a0_1).bind fun t615 => (if t615 = 0 then (some (([1, 0, 3, 2] : List Int))) else (if t615 = 1 then (some (([2, 3, 0, 1] : List Int))) else (if t615 = 2 then (some (([3, 2, 1, 0] : List Int))) else (some (([] : List Int))))))
theorem spec_EndsFor.mono : ∀ a0 a1 k, LeO (spec_EndsFor.f k a0 a1) (spec_EndsFor.f (k + 1) a0 a1) := by
 intro a0 a1 k
 unfold spec_EndsFor.f
 repeat' (with_reducible first | exact spec_KindOf.mono _ _ _ | exact LeO.refl _ | exact LeO.none _ | refine LeO.ite ?_ ?_ | refine LeO.bind ?_ fun _ => ?_)
set_option maxHeartbeats 8000000 in
set_option maxRecDepth 100000 in
theorem spec_EndsFor.calls (k : Nat) (a0_0 : Int) (a0_1 : Int) (r : List Int) (w : World) (h : spec_EndsFor.f k a0_0 a0_1 = some r) :
  Calls Tryz.prog 95 #[.agg #[.int .i64 a0_0, .int .i64 a0_1]] w fun e w' => ∃ v0_ : Value, e = .returned (v0_) ∧ Kd.R (Kd.int .i64) 3 w' w.heap.size (fun _ => True) v0_ r ∧ Below w.heap.size w w' := by
 have hu31 := Tryz.underlying31
 have HB := Aside0.mk (Below.refl w.heap.size w)
 unfold spec_EndsFor.f at h
 have H := h
 clear h
 obtain ⟨t615, A2, H⟩ := sqD H
 by_cases c3 : t615 = 0
 ·rw [if_pos c3] at H
  have c3b0 : (t615 == 0) = true := beq_iff_eq.mpr c3
  have c3b1 : (t615 != 0) = false := bne_eq_false_iff_eq.mpr c3
  clear c3
  obtain ⟨y616, hy616⟩ : ∃ y_ : List Int, y_ = (([1, 0, 3, 2] : List Int)) := ⟨_, rfl⟩
  replace H : (some y616) = some r := sqW hy616 H
  have Ny616 := Aside0.mk hy616
  clear hy616
  obtain rfl := Option.some.inj H
  go_enter Tryz.func95, Tryz.ntmps95
  go_wp2_with (first | ((with_reducible refine gate_dst (N := 1) rfl ?_); refine sqBx w (sqB HB) (N := 1) (cs := #[.int .i64 a0_0, .int .i64 a0_1]) (t := 31) ?_; intro gb614 hg w4 BK614 GE614 HB hb; clear hb hg; obtain ⟨hcz5_0, hcz5_1, hfz5_0, hfz5_1⟩ := sqY2 BK614) | ((with_reducible refine gate_callee (f := 131) rfl ?_); refine sqC (some 4) Tryz.func131 #[.agg #[.int .i64 a0_0, .int .i64 a0_1]] ?_; (with_reducible refine (spec_KindOf.calls k a0_0 a0_1 t615 _ A2.out).mono ?_); rintro e w6 ⟨rfl, hb⟩; refine ⟨_, rfl, ?_⟩; replace BK614 := sqT BK614 hb; replace HB := sqS (sqB1 HB GE614) hb; (try clear hb)) | ((with_reducible refine gate_dst (N := 7) rfl ?_); refine Kd.R_lit (Kd.int .i64) _ 3 ?hg (N := 7) ?hd (xs := ([1, 0, 3, 2] : List Int)) (inner := [.int .i64 1, .int .i64 0, .int .i64 3, .int .i64 2]) (ok := fun _ => True) (okp := fun _ => True) ?hr ?hp (fun _ hk => hk) trivial (Below.refl _ _) (Nat.le_refl _) (by simp) ?_; (case hd => rfl); (case hg => rfl); (case hr => exact Z21); (case hp => exact Z57); intro v617 w7 ho8 hb hg_ hnew_; clear hg_ hnew_; (first | rw [← Ny616.out] at ho8 | (simp only [Int.reduceToNat] at ho8; rw [← Ny616.out] at ho8)); have HO618 := sqL ho8 (sqB1 HB GE614); replace BK614 := sqT BK614 hb; replace HB := sqS (sqB1 HB GE614) hb; clear hb ho8))
  go_ret
  exact ⟨_, Z6, Z35 HO618, sqB1 HB GE614⟩
 rw [if_neg c3] at H
 have c3b0 : (t615 == 0) = false := beq_eq_false_iff_ne.mpr c3
 have c3b1 : (t615 != 0) = true := bne_iff_ne.mpr c3
 by_cases c9 : t615 = 1
 ·rw [if_pos c9] at H
  have c9b0 : (t615 == 1) = true := beq_iff_eq.mpr c9
  have c9b1 : (t615 != 1) = false := bne_eq_false_iff_eq.mpr c9
  clear c9
  obtain ⟨y619, hy619⟩ : ∃ y_ : List Int, y_ = (([2, 3, 0, 1] : List Int)) := ⟨_, rfl⟩
  replace H : (some y619) = some r := sqW hy619 H
  have Ny619 := Aside0.mk hy619
  clear hy619
  obtain rfl := Option.some.inj H
  go_enter Tryz.func95, Tryz.ntmps95
  go_wp2_with (first | ((with_reducible refine gate_dst (N := 1) rfl ?_); refine sqBx w (sqB HB) (N := 1) (cs := #[.int .i64 a0_0, .int .i64 a0_1]) (t := 31) ?_; intro gb614 hg w10 BK614 GE614 HB hb; clear hb hg; obtain ⟨hcz11_0, hcz11_1, hfz11_0, hfz11_1⟩ := sqY2 BK614) | ((with_reducible refine gate_callee (f := 131) rfl ?_); refine sqC (some 4) Tryz.func131 #[.agg #[.int .i64 a0_0, .int .i64 a0_1]] ?_; (with_reducible refine (spec_KindOf.calls k a0_0 a0_1 t615 _ A2.out).mono ?_); rintro e w12 ⟨rfl, hb⟩; refine ⟨_, rfl, ?_⟩; replace BK614 := sqT BK614 hb; replace HB := sqS (sqB1 HB GE614) hb; (try clear hb)) | ((with_reducible refine gate_dst (N := 10) rfl ?_); refine Kd.R_lit (Kd.int .i64) _ 3 ?hg (N := 10) ?hd (xs := ([2, 3, 0, 1] : List Int)) (inner := [.int .i64 2, .int .i64 3, .int .i64 0, .int .i64 1]) (ok := fun _ => True) (okp := fun _ => True) ?hr ?hp (fun _ hk => hk) trivial (Below.refl _ _) (Nat.le_refl _) (by simp) ?_; (case hd => rfl); (case hg => rfl); (case hr => exact Z21); (case hp => exact Z58); intro v620 w13 ho14 hb hg_ hnew_; clear hg_ hnew_; (first | rw [← Ny619.out] at ho14 | (simp only [Int.reduceToNat] at ho14; rw [← Ny619.out] at ho14)); have HO621 := sqL ho14 (sqB1 HB GE614); replace BK614 := sqT BK614 hb; replace HB := sqS (sqB1 HB GE614) hb; clear hb ho14))
  go_ret
  exact ⟨_, Z6, Z35 HO621, sqB1 HB GE614⟩
 rw [if_neg c9] at H
 have c9b0 : (t615 == 1) = false := beq_eq_false_iff_ne.mpr c9
 have c9b1 : (t615 != 1) = true := bne_iff_ne.mpr c9
 by_cases c15 : t615 = 2
 ·rw [if_pos c15] at H
  have c15b0 : (t615 == 2) = true := beq_iff_eq.mpr c15
  have c15b1 : (t615 != 2) = false := bne_eq_false_iff_eq.mpr c15
  clear c15
  obtain ⟨y622, hy622⟩ : ∃ y_ : List Int, y_ = (([3, 2, 1, 0] : List Int)) := ⟨_, rfl⟩
  replace H : (some y622) = some r := sqW hy622 H
  have Ny622 := Aside0.mk hy622
  clear hy622
  obtain rfl := Option.some.inj H
  go_enter Tryz.func95, Tryz.ntmps95
  go_wp2_with (first | ((with_reducible refine gate_dst (N := 1) rfl ?_); refine sqBx w (sqB HB) (N := 1) (cs := #[.int .i64 a0_0, .int .i64 a0_1]) (t := 31) ?_; intro gb614 hg w16 BK614 GE614 HB hb; clear hb hg; obtain ⟨hcz17_0, hcz17_1, hfz17_0, hfz17_1⟩ := sqY2 BK614) | ((with_reducible refine gate_callee (f := 131) rfl ?_); refine sqC (some 4) Tryz.func131 #[.agg #[.int .i64 a0_0, .int .i64 a0_1]] ?_; (with_reducible refine (spec_KindOf.calls k a0_0 a0_1 t615 _ A2.out).mono ?_); rintro e w18 ⟨rfl, hb⟩; refine ⟨_, rfl, ?_⟩; replace BK614 := sqT BK614 hb; replace HB := sqS (sqB1 HB GE614) hb; (try clear hb)) | ((with_reducible refine gate_dst (N := 13) rfl ?_); refine Kd.R_lit (Kd.int .i64) _ 3 ?hg (N := 13) ?hd (xs := ([3, 2, 1, 0] : List Int)) (inner := [.int .i64 3, .int .i64 2, .int .i64 1, .int .i64 0]) (ok := fun _ => True) (okp := fun _ => True) ?hr ?hp (fun _ hk => hk) trivial (Below.refl _ _) (Nat.le_refl _) (by simp) ?_; (case hd => rfl); (case hg => rfl); (case hr => exact Z21); (case hp => exact Z59); intro v623 w19 ho20 hb hg_ hnew_; clear hg_ hnew_; (first | rw [← Ny622.out] at ho20 | (simp only [Int.reduceToNat] at ho20; rw [← Ny622.out] at ho20)); have HO624 := sqL ho20 (sqB1 HB GE614); replace BK614 := sqT BK614 hb; replace HB := sqS (sqB1 HB GE614) hb; clear hb ho20))
  go_ret
  exact ⟨_, Z6, Z35 HO624, sqB1 HB GE614⟩
 rw [if_neg c15] at H
 have c15b0 : (t615 == 2) = false := beq_eq_false_iff_ne.mpr c15
 have c15b1 : (t615 != 2) = true := bne_iff_ne.mpr c15
 obtain ⟨y625, hy625⟩ : ∃ y_ : List Int, y_ = (([] : List Int)) := ⟨_, rfl⟩
 replace H : (some y625) = some r := sqW hy625 H
 have Ny625 := Aside0.mk hy625
 clear hy625
 obtain rfl := Option.some.inj H
 go_enter Tryz.func95, Tryz.ntmps95
 go_wp2_with (first | ((with_reducible refine gate_dst (N := 1) rfl ?_); refine sqBx w (sqB HB) (N := 1) (cs := #[.int .i64 a0_0, .int .i64 a0_1]) (t := 31) ?_; intro gb614 hg w21 BK614 GE614 HB hb; clear hb hg; obtain ⟨hcz22_0, hcz22_1, hfz22_0, hfz22_1⟩ := sqY2 BK614) | ((with_reducible refine gate_callee (f := 131) rfl ?_); refine sqC (some 4) Tryz.func131 #[.agg #[.int .i64 a0_0, .int .i64 a0_1]] ?_; (with_reducible refine (spec_KindOf.calls k a0_0 a0_1 t615 _ A2.out).mono ?_); rintro e w23 ⟨rfl, hb⟩; refine ⟨_, rfl, ?_⟩; replace BK614 := sqT BK614 hb; replace HB := sqS (sqB1 HB GE614) hb; (try clear hb)) | ((with_reducible refine gate_dst (N := 14) rfl ?_); refine Kd.R_lit (Kd.int .i64) _ 3 ?hg (N := 14) ?hd (xs := ([] : List Int)) (inner := []) (ok := fun _ => True) (okp := fun _ => True) ?hr ?hp (fun _ hk => hk) trivial (Below.refl _ _) (Nat.le_refl _) (by simp) ?_; (case hd => rfl); (case hg => rfl); (case hr => exact Z21); (case hp => exact Z22); intro v626 w24 ho25 hb hg_ hnew_; clear hg_ hnew_; (first | rw [← Ny625.out] at ho25 | (simp only [Int.reduceToNat] at ho25; rw [← Ny625.out] at ho25)); have HO627 := sqL ho25 (sqB1 HB GE614); replace BK614 := sqT BK614 hb; replace HB := sqS (sqB1 HB GE614) hb; clear hb ho25))
 go_ret
 exact ⟨_, Z6, Z35 HO627, sqB1 HB GE614⟩

end Go.Proofs.YtofmlbgfcohhoaaGreatDoor.PFnExactDeskLine
