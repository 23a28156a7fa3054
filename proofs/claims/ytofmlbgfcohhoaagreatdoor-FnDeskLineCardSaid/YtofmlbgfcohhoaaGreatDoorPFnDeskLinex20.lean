import Derived.Test.YtofmlbgfcohhoaaGreatDoorPFnDeskLinex18
set_option maxHeartbeats 8000000
set_option maxRecDepth 100000
namespace Go.Proofs.YtofmlbgfcohhoaaGreatDoor.PFnDeskLine
open Go.RowKit Go.Proofs.YtofmlbgfcohhoaaGreatDoorW.PrintWords Go.Proofs.YtofmlbgfcohhoaaGreatDoorW.PrintLast Go.Proofs.YtofmlbgfcohhoaaGreatDoorW.PrintMore Go.Proofs.YtofmlbgfcohhoaaGreatDoor.Lib Go.Proofs.Tryz
attribute [local go_sem] max2_int min2_int max_two min_two max_three min_three max_four min_four
set_option linter.unusedVariables false
set_option linter.unusedSimpArgs false

/-! ### spec_l4Over: function 153 -/
def spec_l4Over.f (a0_0 : Int) (a0_1 : Int) : Option (Int) := (spec_l3Under.f (wrap64 (-a0_0)) a0_1).bind fun t0 => (some (wrap64 (-t0)))
theorem spec_l4Over.calls (a0_0 : Int) (a0_1 : Int) (r : Int) (w : World) (H : spec_l4Over.f a0_0 a0_1 = some r) :
  Calls prog 153 #[.agg #[.int .i64 a0_0, .int .i64 a0_1]] w fun e w' => e = .returned (.int .i64 r) ∧ Below w.heap.size w w' := by
 have hu31 := underlying31
 have HB := sqh w
 unfold spec_l4Over.f at H
 obtain ⟨t0, A2, H⟩ := sqD H
 obtain rfl := sqo H
 go_enter func153, ntmps153
 go_wp2_with (first | ((with_reducible refine sqd 1 rfl ?_); refine sqBx w (sqB HB) (cs := #[.int .i64 a0_0, .int .i64 a0_1]) (t := 31) ?_; intro g0 hg w3 B0 E0 HB hb; clear hb hg; obtain ⟨_, _, _, _⟩ := sqY2 B0) | ((with_reducible refine sqc 173 rfl ?_); refine sqC (some 9) func173 #[.agg #[.int .i64 (wrap64 (-a0_0)), .int .i64 a0_1]] ?_; (with_reducible refine (spec_l3Under.calls (wrap64 (-a0_0)) a0_1 t0 _ A2.1).mono ?_); refine sqV fun w5 hb => ?_; replace B0 := sqT B0 hb; replace HB := sqS (sqB1 HB E0) hb))
 go_ret
 exact ⟨Z5, sqB1 HB E0⟩

/-! ### spec_l4Terms: function 129 -/
def spec_l4Terms.l0 : Nat → List Int → Int → Int → Option (List Int)
 | 0, _, _, _ => none
 | k + 1, x3, x0, x1 => if x1 > 0 then ((spec_l4Over.f x0 x1).bind fun t0 => (if x3.length < 17592186044416 then (spec_l4Terms.l0 k (x3 ++ [t0]) x1 (wrap64 ((wrap64 (t0 * x1)) - x0))) else (none))) else (some x3)
def spec_l4Terms.f (k : Nat) (a0_0 : Int) (a0_1 : Int) : Option (List Int) := spec_l4Terms.l0 k (([] : List Int)) a0_0 a0_1
abbrev spec_l4Terms.M (k : Nat) : Prop := (∀ y0 y1 y2, LeO (spec_l4Terms.l0 k y0 y1 y2) (spec_l4Terms.l0 (k + 1) y0 y1 y2))
theorem spec_l4Terms.mono_t : ∀ k, spec_l4Terms.M k → spec_l4Terms.M (k + 1) ∧ ∀ a0 a1, LeO (spec_l4Terms.f k a0 a1) (spec_l4Terms.f (k + 1) a0 a1) := by
  rintro k ih0
  refine ⟨?_, ?_⟩ <;> (try unfold spec_l4Terms.M) <;> intros <;> (first | unfold spec_l4Terms.l0 | unfold spec_l4Terms.f) <;> repeat' (with_reducible first | exact ih0 _ _ _ | exact LeO.refl _ | exact LeO.none _ | refine LeO.ite ?_ ?_ | refine LeO.bind ?_ fun _ => ?_)
theorem spec_l4Terms.mono_l : ∀ k, spec_l4Terms.M k
 | 0 => fun _ _ _ r h => by simp [spec_l4Terms.l0] at h
 | k + 1 => (spec_l4Terms.mono_t k (spec_l4Terms.mono_l k)).1
theorem spec_l4Terms.mono a0 a1 k : LeO (spec_l4Terms.f k a0 a1) (spec_l4Terms.f (k + 1) a0 a1) := (spec_l4Terms.mono_t k (spec_l4Terms.mono_l k)).2 a0 a1
theorem spec_l4Terms.calls (k : Nat) (a0_0 : Int) (a0_1 : Int) (r : List Int) (w : World) (H : spec_l4Terms.f k a0_0 a0_1 = some r) :
  Calls prog 129 #[.agg #[.int .i64 a0_0, .int .i64 a0_1]] w fun e w' => ∃ v0_ : Value, e = .returned (v0_) ∧ Kd.R (Kd.int .i64) 3 w' w.heap.size (fun _ => True) v0_ r ∧ Below w.heap.size w w' := by
 have hu31 := underlying31
 have HB := sqh w
 unfold spec_l4Terms.f at H
 obtain ⟨y0, hy0⟩ : ∃ y_ : List Int, y_ = (([] : List Int)) := ⟨_, rfl⟩
 replace H : (spec_l4Terms.l0 k y0 a0_0 a0_1) = some r := sqW hy0 H
 have Ny0 := sqa hy0
 clear hy0
 have H' := sqa H
 clear H
 go_enter func129, ntmps129
 go_wp2_with (first | ((with_reducible refine sqd 1 rfl ?_); refine sqBx w (sqB HB) (cs := #[.int .i64 a0_0, .int .i64 a0_1]) (t := 31) ?_; intro g0 hg w2 B0 E0 HB hb; clear hb hg) | ((with_reducible refine sqd 6 rfl ?_); refine Kd.R_lit (Kd.int .i64) _ 3 ?hg (N := 6) ?hd (xs := ([] : List Int)) (inner := []) (ok := fun _ => True) (okp := fun _ => True) ?hr ?hp (fun _ hk => hk) trivial (Below.refl _ _) (Nat.le_refl _) (by simp) ?_; (case hd => rfl); (case hg => rfl); (case hr => exact Z17); (case hp => exact Z23); intro v0 w3 ho4 hb hg_ hnew_; clear hg_ hnew_; (first | rw [← Ny0.out] at ho4 | (simp only [Int.reduceToNat] at ho4; rw [← Ny0.out] at ho4)); have O0 := sqL ho4 (sqB1 HB E0); replace B0 := sqT B0 hb; replace HB := sqS (sqB1 HB E0) hb; clear hb ho4; obtain ⟨_, _, _, _⟩ := sqY2 B0) | ((with_reducible refine sqd 4 rfl ?_); refine sqBx w (sqB1 HB E0) (cs := #[.int .i64 0, .int .i64 0]) (t := 31) ?_; intro g1 hg w6 B2 E1 HB hb; replace O0 := sqU O0 hb; obtain ⟨N0, N1⟩ := sqM hg B0; replace B0 := sqT B0 hb; clear hb hg; have := N1.1; have := N0.1; obtain ⟨_, _, _, _⟩ := sqY2 B2))
 go_loopg [3] k (fun kq v3 w' => ∃ (x3_1 : List Int) (x0 : Int) (x1 : Int), Aside0 (spec_l4Terms.l0 kq x3_1 x0 x1 = some r) ∧ Aside0 (kq ≤ k) ∧ Aside0 (Kd.R (Kd.int .i64) 3 w' w.heap.size (fun _ => True) v3 x3_1) ∧ Aside0 (w'.heap[g0]? = some (.cells #[.int .i64 a0_0, .int .i64 a0_1] 31 (0, 0))) ∧ Aside0 (w'.heap[g1]? = some (.cells #[.int .i64 x0, .int .i64 x1] 31 (0, 0))) ∧ Aside0 (Below w.heap.size w w'))
 case atStart => exact ⟨(y0), (a0_0), (a0_1), H', ⟨Nat.le_refl _⟩, ⟨by (with_reducible repeat (first | apply Kd.R_alloc | apply Kd.R_drewN | apply Kd.R_drew)); exact Kd.R_mono (sqr2 O0.1 B2.1) (fun _ hk => trivial)⟩, ⟨Z9 N0 B0⟩, ⟨Z4 B2⟩, ⟨sqB2 HB E0 E1⟩⟩
 case round =>
  clear H'
  obtain ⟨x3_1, x0, x1, HA, HK1, O1, B0, B2, HB⟩ := hrel
  cases gk with
  | zero => exact absurd HA.out (by simp [spec_l4Terms.l0])
  | succ k1 =>
   have H := HA.out
   clear HA
   simp only [spec_l4Terms.l0] at H
   by_cases c9 : x1 > 0
   ·rw [if_pos c9] at H
    have c9b0 : decide (0 < x1) = true := decide_eq_true c9
    clear c9
    obtain ⟨t0, A0, H⟩ := sqD H
    obtain ⟨c0, H⟩ := sqI H
    have LMc0 := sqa c0
    clear c0
    obtain ⟨y1, hy1⟩ : ∃ y_ : List Int, y_ = (x3_1 ++ [t0]) := ⟨_, rfl⟩
    replace H : (spec_l4Terms.l0 k1 y1 x1 (wrap64 ((wrap64 (t0 * x1)) - x0))) = some r := sqW hy1 H
    have Ny1 := sqa hy1
    clear hy1
    have H' := sqa H
    clear H
    have := N1.1
    have := N0.1
    obtain ⟨_, _, _, _⟩ := sqY2 B2
    go_wp2_with (first | ((with_reducible refine sqc 153 rfl ?_); refine sqC (some 12) func153 #[.agg #[.int .i64 x0, .int .i64 x1]] ?_; (with_reducible refine (spec_l4Over.calls x0 x1 t0 _ A0.1).mono ?_); refine sqV fun w1 hb => ?_; replace O1 := sqU O1 hb; replace B0 := sqT B0 hb; replace B2 := sqT B2 hb; replace HB := sqS (sqB2 HB E0 E1) hb) | ((with_reducible refine gate_builtin (b := .append) (xs := #[.tmp 13, .tmp 15]) rfl ?_); at_builtin; refine Kd.R_append (Kd.int .i64) (w0 := w) w.heap.size rfl (.tmp 13) (.tmp 15) 109 3 (.int .i64 0) 8 rfl underlying109 info3 rfl (by decide) (by omega) u3 x3_1 t0 [.int .i64 t0] (fun _ => True) (fun _ => False) rfl rfl ?aP (fun _ hk => hk.elim) ?aF ?aO ?aB ?aS ?aL ?_; (case aP => exact rfl); (case aB => exact (sqB2 HB E0 E1)); (case aF => exact Z24); (case aO => exact (sqR O1)); (case aS => exact (below_size (sqB2 HB E0 E1))); (case aL => exact Z2 LMc0); intro v1 w4 ho hb hg hat; rw [← Ny1.out] at ho; replace B0 := sqa (blk_grown (sqK B0) hg (Kd.R_ne O1.1 B0.1 (by decide))); replace B2 := sqa (blk_grown (sqK B2) hg (Kd.R_ne O1.1 B2.1 (by decide))); replace HB := sqa (hb); have O2 := sqa (ho); clear O1; clear ho hb hg hat; obtain ⟨_, _, _, _⟩ := sqY2 B2))
    go_roundg k1
    case measure => have := HK1.out; omega
    case rel => exact ⟨(y1), (x1), (wrap64 ((wrap64 (t0 * x1)) - x0)), H', ⟨Z2 HK1⟩, ⟨by (with_reducible repeat (first | apply Kd.R_alloc | apply Kd.R_drewN | apply Kd.R_drew)); exact Kd.R_mono (Kd.R_far (p := ⟨g1, 1, none⟩) (Kd.R_far (p := ⟨g1, 0, none⟩) (Kd.R_types O2.1 B2.1 (by decide)) (fun _ hk => hk.2) (.int .i64 x1)) (fun _ hk => hk.2) (.int .i64 (wrap64 ((wrap64 (t0 * x1)) - x0)))) (fun _ hk => trivial)⟩, ⟨Z9 N0 B0⟩, ⟨by refine sqPut (cs := #[.int .i64 x1, .int .i64 x1]) ?_ 1; refine sqPut (cs := #[.int .i64 x0, .int .i64 x1]) ?_ 0; exact sqK B2⟩, ⟨sqB2 HB E0 E1⟩⟩
   rw [if_neg c9] at H
   have c9b0 : decide (0 < x1) = false := decide_eq_false c9
   clear c9
   obtain rfl := sqo H
   have := N1.1
   have := N0.1
   obtain ⟨_, _, _, _⟩ := sqY2 B2
   go_wp2
   go_ret
   exact ⟨_, Z5, Z25 O1, sqB2 HB E0 E1⟩

/-! ### spec_TermsOf: function 91 -/
def spec_TermsOf.f (k : Nat) (a0_0 : Int) (a0_1 : Int) : Option (List Int × Bool) := (spec_FractionOk.f k a0_0 a0_1).bind fun t0 => (if t0 = true then ((spec_l1In.f a0_0 (-60) 60).bind fun t1 => (if t1 = true then ((spec_l1In.f a0_1 1 60).bind fun t2 => (if t2 = true then ((spec_l4Terms.f k a0_0 a0_1).bind fun t3 => (some (t3, true))) else (some ((([] : List Int)), false)))) else (some ((([] : List Int)), false)))) else (some ((([] : List Int)), false)))
theorem spec_TermsOf.mono : ∀ a0 a1 k, LeO (spec_TermsOf.f k a0 a1) (spec_TermsOf.f (k + 1) a0 a1) := by
 intro a0 a1 k
 unfold spec_TermsOf.f
 repeat' (with_reducible first | exact spec_FractionOk.mono _ _ _ | exact spec_l4Terms.mono _ _ _ | exact LeO.refl _ | exact LeO.none _ | refine LeO.ite ?_ ?_ | refine LeO.bind ?_ fun _ => ?_)
theorem spec_TermsOf.calls (k : Nat) (a0_0 : Int) (a0_1 : Int) (r1 : List Int) (r2 : Bool) (w : World) (H : spec_TermsOf.f k a0_0 a0_1 = some (r1, r2)) :
  Calls prog 91 #[.agg #[.int .i64 a0_0, .int .i64 a0_1]] w fun e w' => ∃ v0_ : Value, e = .returned (.tuple #[v0_, .bool r2]) ∧ Kd.R (Kd.int .i64) 3 w' w.heap.size (fun _ => True) v0_ r1 ∧ Below w.heap.size w w' := by
 have hu31 := underlying31
 have HB := sqh w
 unfold spec_TermsOf.f at H
 obtain ⟨t0, A2, H⟩ := sqD H
 by_cases c3 : t0 = true
 ·subst c3
  rw [if_pos rfl] at H
  obtain ⟨t1, A4, H⟩ := sqD H
  by_cases c5 : t1 = true
  ·subst c5
   rw [if_pos rfl] at H
   obtain ⟨t2, A6, H⟩ := sqD H
   by_cases c7 : t2 = true
   ·subst c7
    rw [if_pos rfl] at H
    obtain ⟨t3, A8, H⟩ := sqD H
    obtain ⟨rfl, rfl⟩ := sqO2 H
    go_enter func91, ntmps91
    go_wp2_with (first | ((with_reducible refine sqd 1 rfl ?_); refine sqBx w (sqB HB) (cs := #[.int .i64 a0_0, .int .i64 a0_1]) (t := 31) ?_; intro g0 hg w9 B0 E0 HB hb; clear hb hg; obtain ⟨_, _, _, _⟩ := sqY2 B0) | ((with_reducible refine sqc 77 rfl ?_); refine sqC (some 5) func77 #[.agg #[.int .i64 a0_0, .int .i64 a0_1]] ?_; (with_reducible refine (spec_FractionOk.calls k a0_0 a0_1 true _ A2.1).mono ?_); refine sqV fun w0 hb => ?_; replace B0 := sqT B0 hb; replace HB := sqS (sqB1 HB E0) hb; obtain ⟨_, _, _, _⟩ := sqY2 B0) | (go_at_call 101; (with_reducible refine (spec_l1In.calls a0_0 (-60) 60 true _ A4.1).mono ?_); rintro e w' ⟨rfl, ⟨nd, rfl⟩⟩) | (go_at_call 101; (with_reducible refine (spec_l1In.calls a0_1 1 60 true _ A6.1).mono ?_); rintro e w' ⟨rfl, ⟨nd, rfl⟩⟩) | ((with_reducible refine sqc 129 rfl ?_); refine sqC (some 21) func129 #[.agg #[.int .i64 a0_0, .int .i64 a0_1]] ?_; (with_reducible refine (spec_l4Terms.calls k a0_0 a0_1 t3 _ A8.1).mono ?_); rintro e w1 ⟨v0, rfl, ho0, hb⟩; refine ⟨_, rfl, ?_⟩; have O0 := sqL ho0 (sqB1 HB E0); replace B0 := sqT B0 hb; replace HB := sqS (sqB1 HB E0) hb; (try clear ho0)))
    go_ret2
    exact ⟨_, Z5, Z25 O0, sqB1 HB E0⟩
   obtain rfl := sqb c7
   rw [if_neg sqF] at H
   obtain ⟨y0, hy0⟩ : ∃ y_ : List Int, y_ = (([] : List Int)) := ⟨_, rfl⟩
   replace H : (some (y0, false)) = some (r1, r2) := sqW hy0 H
   have Ny0 := sqa hy0
   clear hy0
   obtain ⟨rfl, rfl⟩ := sqO2 H
   go_enter func91, ntmps91
   go_wp2_with (first | ((with_reducible refine sqd 1 rfl ?_); refine sqBx w (sqB HB) (cs := #[.int .i64 a0_0, .int .i64 a0_1]) (t := 31) ?_; intro g0 hg w2 B0 E0 HB hb; clear hb hg; obtain ⟨_, _, _, _⟩ := sqY2 B0) | ((with_reducible refine sqc 77 rfl ?_); refine sqC (some 5) func77 #[.agg #[.int .i64 a0_0, .int .i64 a0_1]] ?_; (with_reducible refine (spec_FractionOk.calls k a0_0 a0_1 true _ A2.1).mono ?_); refine sqV fun w3 hb => ?_; replace B0 := sqT B0 hb; replace HB := sqS (sqB1 HB E0) hb; obtain ⟨_, _, _, _⟩ := sqY2 B0) | (go_at_call 101; (with_reducible refine (spec_l1In.calls a0_0 (-60) 60 true _ A4.1).mono ?_); rintro e w' ⟨rfl, ⟨nd, rfl⟩⟩) | (go_at_call 101; (with_reducible refine (spec_l1In.calls a0_1 1 60 false _ A6.1).mono ?_); rintro e w' ⟨rfl, ⟨nd, rfl⟩⟩) | ((with_reducible refine sqd 19 rfl ?_); refine Kd.R_lit (Kd.int .i64) _ 3 ?hg (N := 19) ?hd (xs := ([] : List Int)) (inner := []) (ok := fun _ => True) (okp := fun _ => True) ?hr ?hp (fun _ hk => hk) trivial (Below.refl _ _) (Nat.le_refl _) (by simp) ?_; (case hd => rfl); (case hg => rfl); (case hr => exact Z17); (case hp => exact Z23); intro v1 w4 ho1 hb hg_ hnew_; clear hg_ hnew_; (first | rw [← Ny0.out] at ho1 | (simp only [Int.reduceToNat] at ho1; rw [← Ny0.out] at ho1)); have O1 := sqL ho1 (sqB1 HB E0); replace B0 := sqT B0 hb; replace HB := sqS (sqB1 HB E0) hb; clear hb ho1))
   go_ret2
   exact ⟨_, Z5, Z25 O1, sqB1 HB E0⟩
  obtain rfl := sqb c5
  rw [if_neg sqF] at H
  obtain ⟨y1, hy1⟩ : ∃ y_ : List Int, y_ = (([] : List Int)) := ⟨_, rfl⟩
  replace H : (some (y1, false)) = some (r1, r2) := sqW hy1 H
  have Ny1 := sqa hy1
  clear hy1
  obtain ⟨rfl, rfl⟩ := sqO2 H
  go_enter func91, ntmps91
  go_wp2_with (first | ((with_reducible refine sqd 1 rfl ?_); refine sqBx w (sqB HB) (cs := #[.int .i64 a0_0, .int .i64 a0_1]) (t := 31) ?_; intro g0 hg w5 B0 E0 HB hb; clear hb hg; obtain ⟨_, _, _, _⟩ := sqY2 B0) | ((with_reducible refine sqc 77 rfl ?_); refine sqC (some 5) func77 #[.agg #[.int .i64 a0_0, .int .i64 a0_1]] ?_; (with_reducible refine (spec_FractionOk.calls k a0_0 a0_1 true _ A2.1).mono ?_); refine sqV fun w6 hb => ?_; replace B0 := sqT B0 hb; replace HB := sqS (sqB1 HB E0) hb; obtain ⟨_, _, _, _⟩ := sqY2 B0) | (go_at_call 101; (with_reducible refine (spec_l1In.calls a0_0 (-60) 60 false _ A4.1).mono ?_); rintro e w' ⟨rfl, ⟨nd, rfl⟩⟩) | ((with_reducible refine sqd 19 rfl ?_); refine Kd.R_lit (Kd.int .i64) _ 3 ?hg (N := 19) ?hd (xs := ([] : List Int)) (inner := []) (ok := fun _ => True) (okp := fun _ => True) ?hr ?hp (fun _ hk => hk) trivial (Below.refl _ _) (Nat.le_refl _) (by simp) ?_; (case hd => rfl); (case hg => rfl); (case hr => exact Z17); (case hp => exact Z23); intro v2 w7 ho2 hb hg_ hnew_; clear hg_ hnew_; (first | rw [← Ny1.out] at ho2 | (simp only [Int.reduceToNat] at ho2; rw [← Ny1.out] at ho2)); have O2 := sqL ho2 (sqB1 HB E0); replace B0 := sqT B0 hb; replace HB := sqS (sqB1 HB E0) hb; clear hb ho2))
  go_ret2
  exact ⟨_, Z5, Z25 O2, sqB1 HB E0⟩
 obtain rfl := sqb c3
 rw [if_neg sqF] at H
 obtain ⟨y2, hy2⟩ : ∃ y_ : List Int, y_ = (([] : List Int)) := ⟨_, rfl⟩
 replace H : (some (y2, false)) = some (r1, r2) := sqW hy2 H
 have Ny2 := sqa hy2
 clear hy2
 obtain ⟨rfl, rfl⟩ := sqO2 H
 go_enter func91, ntmps91
 go_wp2_with (first | ((with_reducible refine sqd 1 rfl ?_); refine sqBx w (sqB HB) (cs := #[.int .i64 a0_0, .int .i64 a0_1]) (t := 31) ?_; intro g0 hg w8 B0 E0 HB hb; clear hb hg; obtain ⟨_, _, _, _⟩ := sqY2 B0) | ((with_reducible refine sqc 77 rfl ?_); refine sqC (some 5) func77 #[.agg #[.int .i64 a0_0, .int .i64 a0_1]] ?_; (with_reducible refine (spec_FractionOk.calls k a0_0 a0_1 false _ A2.1).mono ?_); refine sqV fun w28 hb => ?_; replace B0 := sqT B0 hb; replace HB := sqS (sqB1 HB E0) hb) | ((with_reducible refine sqd 19 rfl ?_); refine Kd.R_lit (Kd.int .i64) _ 3 ?hg (N := 19) ?hd (xs := ([] : List Int)) (inner := []) (ok := fun _ => True) (okp := fun _ => True) ?hr ?hp (fun _ hk => hk) trivial (Below.refl _ _) (Nat.le_refl _) (by simp) ?_; (case hd => rfl); (case hg => rfl); (case hr => exact Z17); (case hp => exact Z23); intro v3 w29 ho3 hb hg_ hnew_; clear hg_ hnew_; (first | rw [← Ny2.out] at ho3 | (simp only [Int.reduceToNat] at ho3; rw [← Ny2.out] at ho3)); have O3 := sqL ho3 (sqB1 HB E0); replace B0 := sqT B0 hb; replace HB := sqS (sqB1 HB E0) hb; clear hb ho3))
 go_ret2
 exact ⟨_, Z5, Z25 O3, sqB1 HB E0⟩

/-! ### spec_l11Row: function 92 -/
def spec_l11Row.l0 : Nat → List Int → ByteArray → Int → Option (ByteArray)
 | 0, _, _, _ => none
 | k + 1, x0, x3, x4 => if x4 < (x0.length : Int) then (if x4 > 0 then (if x3.size + 1 ≤ 9223372036854775807 then (if 0 ≤ x4 then ((spec_l1Number.f k (rd x0 x4)).bind fun t0 => (if (x3 ++ (⟨#[44]⟩ : ByteArray)).size + t0.size ≤ 9223372036854775807 then (spec_l11Row.l0 k x0 ((x3 ++ (⟨#[44]⟩ : ByteArray)) ++ t0) (wrap64 (x4 + 1))) else (none))) else (none)) else (none)) else (if 0 ≤ x4 then ((spec_l1Number.f k (rd x0 x4)).bind fun t1 => (if x3.size + t1.size ≤ 9223372036854775807 then (spec_l11Row.l0 k x0 (x3 ++ t1) (wrap64 (x4 + 1))) else (none))) else (none))) else (if (x0.length : Int) = 0 then (some (⟨#[110, 111, 110, 101]⟩ : ByteArray)) else (some x3))
def spec_l11Row.f (k : Nat) (l0 : List Int) : Option (ByteArray) := spec_l11Row.l0 k l0 (⟨#[]⟩ : ByteArray) 0
abbrev spec_l11Row.M (k : Nat) : Prop := (∀ y0 y1 y2, LeO (spec_l11Row.l0 k y0 y1 y2) (spec_l11Row.l0 (k + 1) y0 y1 y2))
theorem spec_l11Row.mono_t : ∀ k, spec_l11Row.M k → spec_l11Row.M (k + 1) ∧ ∀ a0, LeO (spec_l11Row.f k a0) (spec_l11Row.f (k + 1) a0) := by
  rintro k ih0
  refine ⟨?_, ?_⟩ <;> (try unfold spec_l11Row.M) <;> intros <;> (first | unfold spec_l11Row.l0 | unfold spec_l11Row.f) <;> repeat' (with_reducible first | exact ih0 _ _ _ | exact spec_l1Number.mono _ _ | exact LeO.refl _ | exact LeO.none _ | refine LeO.ite ?_ ?_ | refine LeO.bind ?_ fun _ => ?_)
theorem spec_l11Row.mono_l : ∀ k, spec_l11Row.M k
 | 0 => fun _ _ _ r h => by simp [spec_l11Row.l0] at h
 | k + 1 => (spec_l11Row.mono_t k (spec_l11Row.mono_l k)).1
theorem spec_l11Row.mono a0 k : LeO (spec_l11Row.f k a0) (spec_l11Row.f (k + 1) a0) := (spec_l11Row.mono_t k (spec_l11Row.mono_l k)).2 a0
theorem spec_l11Row.calls (k : Nat) (A0 : Option Addr) (c0 : Nat) (l0 : List Int) (r : ByteArray) (w : World) (hr0 : Kd.C (Kd.int .i64) w A0 l0.length l0) (hc0 : l0.length ≤ c0) (H : spec_l11Row.f k l0 = some r) :
  Calls prog 92 #[.slice A0 l0.length c0] w fun e w' => e = .returned (.string r) ∧ Below w.heap.size w w' := by
 have HR0 := sqa hr0
 have HC0 := sqa hc0
 clear hr0 hc0
 have HB := sqh w
 unfold spec_l11Row.f at H
 have H' := sqa H
 clear H
 go_enter func92, ntmps92
 go_wp2
 go_loopg [3, 4] k (fun kq v3 v4 w' => ∃ (x3_1 : ByteArray) (x4_1 : Int), v3 = .string x3_1 ∧ v4 = .int .i64 x4_1 ∧ Aside0 (spec_l11Row.l0 kq l0 x3_1 x4_1 = some r) ∧ Aside0 (kq ≤ k) ∧ Aside0 (Below w.heap.size w w'))
 case atStart => exact ⟨((⟨#[]⟩ : ByteArray)), (0), Z1, Z1, H', ⟨Nat.le_refl _⟩, ⟨sqB HB⟩⟩
 case round =>
  clear H'
  obtain ⟨x3_1, x4_1, rfl, rfl, HA, HK1, HB⟩ := hrel
  cases gk with
  | zero => exact absurd HA.out (by simp [spec_l11Row.l0])
  | succ k1 =>
   have H := HA.out
   clear HA
   simp only [spec_l11Row.l0] at H
   by_cases c2 : x4_1 < (l0.length : Int)
   ·rw [if_pos c2] at H
    have c2b0 : decide (x4_1 < (l0.length : Int)) = true := decide_eq_true c2
    clear c2
    by_cases c3 : x4_1 > 0
    ·rw [if_pos c3] at H
     have c3b0 : decide (0 < x4_1) = true := decide_eq_true c3
     clear c3
     obtain ⟨c4, H⟩ := sqI H
     have c4b0 := eq_true c4
     have c4b1 : decide (x3_1.size + 1 ≤ 9223372036854775807) = true := decide_eq_true c4
     try have c4b2 : (9223372036854775807 < x3_1.size + 1) = False := eq_false (Nat.not_lt.2 c4)
     obtain ⟨c5, H⟩ := sqI H
     have c5b0 : decide (0 ≤ x4_1) = true := decide_eq_true c5
     clear c5
     obtain ⟨t0, A6, H⟩ := sqD H
     obtain ⟨c7, H⟩ := sqI H
     have c7b0 := eq_true c7
     have c7b1 : decide ((x3_1 ++ (⟨#[44]⟩ : ByteArray)).size + t0.size ≤ 9223372036854775807) = true := decide_eq_true c7
     try have c7b2 : (9223372036854775807 < (x3_1 ++ (⟨#[44]⟩ : ByteArray)).size + t0.size) = False := eq_false (Nat.not_lt.2 c7)
     try have c7b7 : (9223372036854775807 < x3_1.size + 1 + t0.size) = False := by (have h_ := c7b2; (repeat rw [ByteArray.size_append] at h_); exact h_)
     have H' := sqa H
     clear H
     have p0 : 0 ≤ (x4_1 : Int) := of_decide_eq_true Z16
     have q0 : x4_1 < (l0.length : Int) := of_decide_eq_true Z16
     obtain ⟨ad0, e0, hx0⟩ := Kd.at_int HR0.1 x4_1 p0 q0
     cases e0
     replace hx0 := (HB.1.cell (World.block_lt_of_cell? w _ hx0)).trans hx0
     replace p0 := eq_true p0
     replace q0 := eq_true q0
     go_wp2_with (first | ((with_reducible refine sqc 93 rfl ?_); refine sqC (some 20) func93 #[.int .i64 (rd l0 x4_1)] ?_; (with_reducible refine (spec_l1Number.calls k1 (rd l0 x4_1) t0 _ A6.1).mono ?_); refine sqV fun w8 hb => ?_; replace HB := sqS (sqB HB) hb))
     go_roundg k1
     case measure => have := HK1.out; omega
     case rel => exact ⟨((x3_1 ++ (⟨#[44]⟩ : ByteArray)) ++ t0), (wrap64 (x4_1 + 1)), Z1, Z1, H', ⟨Z2 HK1⟩, ⟨sqB HB⟩⟩
    rw [if_neg c3] at H
    have c3b0 : decide (0 < x4_1) = false := decide_eq_false c3
    clear c3
    obtain ⟨c9, H⟩ := sqI H
    have c9b0 : decide (0 ≤ x4_1) = true := decide_eq_true c9
    clear c9
    obtain ⟨t1, A1, H⟩ := sqD H
    obtain ⟨c1, H⟩ := sqI H
    have c6 := eq_true c1
    have c8 : decide (x3_1.size + t1.size ≤ 9223372036854775807) = true := decide_eq_true c1
    try have c10 : (9223372036854775807 < x3_1.size + t1.size) = False := eq_false (Nat.not_lt.2 c1)
    have H' := sqa H
    clear H
    have p1 : 0 ≤ (x4_1 : Int) := of_decide_eq_true Z16
    have q1 : x4_1 < (l0.length : Int) := of_decide_eq_true Z16
    obtain ⟨ad1, e1, hx1⟩ := Kd.at_int HR0.1 x4_1 p1 q1
    cases e1
    replace hx1 := (HB.1.cell (World.block_lt_of_cell? w _ hx1)).trans hx1
    replace p1 := eq_true p1
    replace q1 := eq_true q1
    go_wp2_with (first | ((with_reducible refine sqc 93 rfl ?_); refine sqC (some 20) func93 #[.int .i64 (rd l0 x4_1)] ?_; (with_reducible refine (spec_l1Number.calls k1 (rd l0 x4_1) t1 _ A1.1).mono ?_); refine sqV fun w0 hb => ?_; replace HB := sqS (sqB HB) hb))
    go_roundg k1
    case measure => have := HK1.out; omega
    case rel => exact ⟨(x3_1 ++ t1), (wrap64 (x4_1 + 1)), Z1, Z1, H', ⟨Z2 HK1⟩, ⟨sqB HB⟩⟩
   rw [if_neg c2] at H
   have c2b0 : decide (x4_1 < (l0.length : Int)) = false := decide_eq_false c2
   clear c2
   by_cases c13 : (l0.length : Int) = 0
   ·rw [if_pos c13] at H
    have c14 := sqe1 c13
    have c15 := sqn0 c13
    clear c13
    obtain rfl := sqo H
    go_wp2
    go_ret
    exact ⟨Z5, sqB HB⟩
   rw [if_neg c13] at H
   have c14 := sqe0 c13
   have c15 := sqn1 c13
   have c16 : ¬ (l0 = []) := fun h_ => c13 (by rw [h_]; rfl)
   obtain rfl := sqo H
   go_wp2
   go_ret
   exact ⟨Z5, sqB HB⟩

/-! ### spec_QuotientsOf: function 130 -/
def spec_QuotientsOf.l0 : Nat → List Int → Int → Int → Int → Int → Option (List Int)
 | 0, _, _, _, _, _ => none
 | k + 1, x3, x4, x5, x0, x1 => if x5 > 0 then ((spec_FractionOk.f k x0 x1).bind fun t0 => (if t0 = true then (if x5 = 0 then (none) else (if x3.length < 17592186044416 then (spec_QuotientsOf.l0 k (x3 ++ [wrap64 (Int.tdiv x4 x5)]) x5 (Int.tmod x4 x5) x0 x1) else (none))) else (some x3))) else (some x3)
def spec_QuotientsOf.f (k : Nat) (a0_0 : Int) (a0_1 : Int) : Option (List Int) := spec_QuotientsOf.l0 k (([] : List Int)) (mx a0_0 (wrap64 (-a0_0))) a0_1 a0_0 a0_1
abbrev spec_QuotientsOf.M (k : Nat) : Prop := (∀ y0 y1 y2 y3 y4, LeO (spec_QuotientsOf.l0 k y0 y1 y2 y3 y4) (spec_QuotientsOf.l0 (k + 1) y0 y1 y2 y3 y4))
theorem spec_QuotientsOf.mono_t : ∀ k, spec_QuotientsOf.M k → spec_QuotientsOf.M (k + 1) ∧ ∀ a0 a1, LeO (spec_QuotientsOf.f k a0 a1) (spec_QuotientsOf.f (k + 1) a0 a1) := by
  rintro k ih0
  refine ⟨?_, ?_⟩ <;> (try unfold spec_QuotientsOf.M) <;> intros <;> (first | unfold spec_QuotientsOf.l0 | unfold spec_QuotientsOf.f) <;> repeat' (with_reducible first | exact ih0 _ _ _ _ _ | exact spec_FractionOk.mono _ _ _ | exact LeO.refl _ | exact LeO.none _ | refine LeO.ite ?_ ?_ | refine LeO.bind ?_ fun _ => ?_)
theorem spec_QuotientsOf.mono_l : ∀ k, spec_QuotientsOf.M k
 | 0 => fun _ _ _ _ _ r h => by simp [spec_QuotientsOf.l0] at h
 | k + 1 => (spec_QuotientsOf.mono_t k (spec_QuotientsOf.mono_l k)).1
theorem spec_QuotientsOf.mono a0 a1 k : LeO (spec_QuotientsOf.f k a0 a1) (spec_QuotientsOf.f (k + 1) a0 a1) := (spec_QuotientsOf.mono_t k (spec_QuotientsOf.mono_l k)).2 a0 a1
theorem spec_QuotientsOf.calls (k : Nat) (a0_0 : Int) (a0_1 : Int) (r : List Int) (w : World) (H : spec_QuotientsOf.f k a0_0 a0_1 = some r) :
  Calls prog 130 #[.agg #[.int .i64 a0_0, .int .i64 a0_1]] w fun e w' => ∃ v0_ : Value, e = .returned (v0_) ∧ Kd.R (Kd.int .i64) 3 w' w.heap.size (fun _ => True) v0_ r ∧ Below w.heap.size w w' := by
 have hu31 := underlying31
 have HB := sqh w
 unfold spec_QuotientsOf.f at H
 obtain ⟨y0, hy0⟩ : ∃ y_ : List Int, y_ = (([] : List Int)) := ⟨_, rfl⟩
 replace H : (spec_QuotientsOf.l0 k y0 (mx a0_0 (wrap64 (-a0_0))) a0_1 a0_0 a0_1) = some r := sqW hy0 H
 have Ny0 := sqa hy0
 clear hy0
 obtain ⟨ji2, hji2⟩ : ∃ j_ : Int, (mx a0_0 (wrap64 (-a0_0))) = j_ := ⟨_, rfl⟩
 replace H : (spec_QuotientsOf.l0 k y0 ji2 a0_1 a0_0 a0_1) = some r := by first | (rw [hji2] at H; exact H) | (simp only [hji2] at H ⊢; exact H)
 have hji2_ : (if a0_0 < (wrap64 (-a0_0)) then (wrap64 (-a0_0)) else a0_0) = ji2 := hji2
 have H' := sqa H
 clear H
 go_enter func130, ntmps130
 go_wp2_with (first | ((with_reducible refine sqd 1 rfl ?_); refine sqBx w (sqB HB) (cs := #[.int .i64 a0_0, .int .i64 a0_1]) (t := 31) ?_; intro g0 hg w3 B0 E0 HB hb; clear hb hg) | ((with_reducible refine sqd 7 rfl ?_); refine Kd.R_lit (Kd.int .i64) _ 3 ?hg (N := 7) ?hd (xs := ([] : List Int)) (inner := []) (ok := fun _ => True) (okp := fun _ => True) ?hr ?hp (fun _ hk => hk) trivial (Below.refl _ _) (Nat.le_refl _) (by simp) ?_; (case hd => rfl); (case hg => rfl); (case hr => exact Z17); (case hp => exact Z23); intro v0 w4 ho5 hb hg_ hnew_; clear hg_ hnew_; (first | rw [← Ny0.out] at ho5 | (simp only [Int.reduceToNat] at ho5; rw [← Ny0.out] at ho5)); have O0 := sqL ho5 (sqB1 HB E0); replace B0 := sqT B0 hb; replace HB := sqS (sqB1 HB E0) hb; clear hb ho5; obtain ⟨_, _, _, _⟩ := sqY2 B0))
 go_loopg [3, 4, 5] k (fun kq v3 v4 v5 w' => ∃ (x3_1 : List Int) (x4_1 : Int) (x5_1 : Int), v4 = .int .i64 x4_1 ∧ v5 = .int .i64 x5_1 ∧ Aside0 (spec_QuotientsOf.l0 kq x3_1 x4_1 x5_1 a0_0 a0_1 = some r) ∧ Aside0 (kq ≤ k) ∧ Aside0 (Kd.R (Kd.int .i64) 3 w' w.heap.size (fun _ => True) v3 x3_1) ∧ Aside0 (w'.heap[g0]? = some (.cells #[.int .i64 a0_0, .int .i64 a0_1] 31 (0, 0))) ∧ Aside0 (Below w.heap.size w w'))
 case atStart => exact ⟨(y0), (ji2), (a0_1), Z50, Z1, H', ⟨Nat.le_refl _⟩, ⟨sqR O0⟩, ⟨sqK B0⟩, ⟨sqB1 HB E0⟩⟩
 case round =>
  clear H'
  obtain ⟨x3_1, x4_1, x5_1, rfl, rfl, HA, HK1, O1, B0, HB⟩ := hrel
  cases gk with
  | zero => exact absurd HA.out (by simp [spec_QuotientsOf.l0])
  | succ k1 =>
   have H := HA.out
   clear HA
   simp only [spec_QuotientsOf.l0] at H
   by_cases c7 : x5_1 > 0
   ·rw [if_pos c7] at H
    have c7b0 : decide (0 < x5_1) = true := decide_eq_true c7
    clear c7
    obtain ⟨t0, A8, H⟩ := sqD H
    by_cases c9 : t0 = true
    ·subst c9
     rw [if_pos rfl] at H
     by_cases c10 : x5_1 = 0
     ·rw [if_pos c10] at H
      exact absurd H (by simp)
     rw [if_neg c10] at H
     have c0 := sqe0 c10
     have c1 := sqn1 c10
     obtain ⟨c2, H⟩ := sqI H
     have LMc0 := sqa c2
     clear c2
     obtain ⟨y1, hy1⟩ : ∃ y_ : List Int, y_ = (x3_1 ++ [wrap64 (Int.tdiv x4_1 x5_1)]) := ⟨_, rfl⟩
     replace H : (spec_QuotientsOf.l0 k1 y1 x5_1 (Int.tmod x4_1 x5_1) a0_0 a0_1) = some r := sqW hy1 H
     have Ny1 := sqa hy1
     clear hy1
     have H' := sqa H
     clear H
     obtain ⟨_, _, _, _⟩ := sqY2 B0
     go_wp2_with (first | (go_at_call 77; (with_reducible refine (spec_FractionOk.calls k1 a0_0 a0_1 true _ A8.1).mono ?_); rintro e w1 ⟨rfl, hb⟩; replace O1 := sqU O1 hb; replace B0 := sqT B0 hb; replace HB := sqS (sqB1 HB E0) hb) | ((with_reducible refine gate_builtin (b := .append) (xs := #[.tmp 22, .tmp 26]) rfl ?_); at_builtin; refine Kd.R_append (Kd.int .i64) (w0 := w) w.heap.size rfl (.tmp 22) (.tmp 26) 109 3 (.int .i64 0) 8 rfl underlying109 info3 rfl (by decide) (by omega) u3 x3_1 (wrap64 (Int.tdiv x4_1 x5_1)) [.int .i64 (wrap64 (Int.tdiv x4_1 x5_1))] (fun _ => True) (fun _ => False) rfl rfl ?aP (fun _ hk => hk.elim) ?aF ?aO ?aB ?aS ?aL ?_; (case aP => exact rfl); (case aB => exact (sqB1 HB E0)); (case aF => exact Z24); (case aO => exact (sqR O1)); (case aS => exact (below_size (sqB1 HB E0))); (case aL => exact Z2 LMc0); intro v1 w2 ho hb hg hat; rw [← Ny1.out] at ho; replace B0 := sqa (blk_grown (sqK B0) hg (Kd.R_ne O1.1 B0.1 (by decide))); replace HB := sqa (hb); have O2 := sqa (ho); clear O1; clear ho hb hg hat))
     go_roundg k1
     case measure => have := HK1.out; omega
     case rel => exact ⟨(y1), (x5_1), (Int.tmod x4_1 x5_1), Z1, Z1, H', ⟨Z2 HK1⟩, ⟨sqR O2⟩, ⟨sqK B0⟩, ⟨sqB1 HB E0⟩⟩
    obtain rfl := sqb c9
    rw [if_neg sqF] at H
    obtain rfl := sqo H
    obtain ⟨_, _, _, _⟩ := sqY2 B0
    go_wp2_with (first | (go_at_call 77; (with_reducible refine (spec_FractionOk.calls k1 a0_0 a0_1 false _ A8.1).mono ?_); rintro e w5 ⟨rfl, hb⟩; replace O1 := sqU O1 hb; replace B0 := sqT B0 hb; replace HB := sqS (sqB1 HB E0) hb))
    go_ret
    exact ⟨_, Z51, Z25 O1, sqB1 HB E0⟩
   rw [if_neg c7] at H
   have c7b0 : decide (0 < x5_1) = false := decide_eq_false c7
   clear c7
   obtain rfl := sqo H
   go_wp2
   go_ret
   exact ⟨_, Z51, Z25 O1, sqB1 HB E0⟩

/-! ### spec_CrossingsOf: function 94 -/
def spec_CrossingsOf.l0 : Nat → Int → List Int → Int → Option (Int)
 | 0, _, _, _ => none
 | k + 1, x3, x4, x5 => if x5 < (x4.length : Int) then (if 0 ≤ x5 then (spec_CrossingsOf.l0 k (wrap64 (x3 + (rd x4 x5))) x4 (wrap64 (x5 + 1))) else (none)) else (some x3)
def spec_CrossingsOf.f (k : Nat) (a0_0 : Int) (a0_1 : Int) : Option (Int) := (spec_FractionOk.f k a0_0 a0_1).bind fun t0 => (if t0 = true then ((spec_QuotientsOf.f k a0_0 a0_1).bind fun t1 => (spec_CrossingsOf.l0 k 0 t1 0)) else (some (-1)))
abbrev spec_CrossingsOf.M (k : Nat) : Prop := (∀ y0 y1 y2, LeO (spec_CrossingsOf.l0 k y0 y1 y2) (spec_CrossingsOf.l0 (k + 1) y0 y1 y2))
theorem spec_CrossingsOf.mono_t : ∀ k, spec_CrossingsOf.M k → spec_CrossingsOf.M (k + 1) ∧ ∀ a0 a1, LeO (spec_CrossingsOf.f k a0 a1) (spec_CrossingsOf.f (k + 1) a0 a1) := by
  rintro k ih0
  refine ⟨?_, ?_⟩ <;> (try unfold spec_CrossingsOf.M) <;> intros <;> (first | unfold spec_CrossingsOf.l0 | unfold spec_CrossingsOf.f) <;> repeat' (with_reducible first | exact ih0 _ _ _ | exact spec_FractionOk.mono _ _ _ | exact spec_QuotientsOf.mono _ _ _ | exact LeO.refl _ | exact LeO.none _ | refine LeO.ite ?_ ?_ | refine LeO.bind ?_ fun _ => ?_)
theorem spec_CrossingsOf.mono_l : ∀ k, spec_CrossingsOf.M k
 | 0 => fun _ _ _ r h => by simp [spec_CrossingsOf.l0] at h
 | k + 1 => (spec_CrossingsOf.mono_t k (spec_CrossingsOf.mono_l k)).1
theorem spec_CrossingsOf.mono a0 a1 k : LeO (spec_CrossingsOf.f k a0 a1) (spec_CrossingsOf.f (k + 1) a0 a1) := (spec_CrossingsOf.mono_t k (spec_CrossingsOf.mono_l k)).2 a0 a1
theorem spec_CrossingsOf.calls (k : Nat) (a0_0 : Int) (a0_1 : Int) (r : Int) (w : World) (H : spec_CrossingsOf.f k a0_0 a0_1 = some r) :
  Calls prog 94 #[.agg #[.int .i64 a0_0, .int .i64 a0_1]] w fun e w' => e = .returned (.int .i64 r) ∧ Below w.heap.size w w' := by
 have hu31 := underlying31
 have HB := sqh w
 unfold spec_CrossingsOf.f at H
 obtain ⟨t0, A2, H⟩ := sqD H
 by_cases c3 : t0 = true
 ·subst c3
  rw [if_pos rfl] at H
  obtain ⟨t1, A4, H⟩ := sqD H
  have H' := sqa H
  clear H
  go_enter func94, ntmps94
  go_wp2_with (first | ((with_reducible refine sqd 1 rfl ?_); refine sqBx w (sqB HB) (cs := #[.int .i64 a0_0, .int .i64 a0_1]) (t := 31) ?_; intro g0 hg w5 B0 E0 HB hb; clear hb hg; obtain ⟨_, _, _, _⟩ := sqY2 B0) | ((with_reducible refine sqc 77 rfl ?_); refine sqC (some 7) func77 #[.agg #[.int .i64 a0_0, .int .i64 a0_1]] ?_; (with_reducible refine (spec_FractionOk.calls k a0_0 a0_1 true _ A2.1).mono ?_); refine sqV fun w7 hb => ?_; replace B0 := sqT B0 hb; replace HB := sqS (sqB1 HB E0) hb; obtain ⟨_, _, _, _⟩ := sqY2 B0) | ((with_reducible refine sqc 130 rfl ?_); refine sqC (some 10) func130 #[.agg #[.int .i64 a0_0, .int .i64 a0_1]] ?_; (with_reducible refine (spec_QuotientsOf.calls k a0_0 a0_1 t1 _ A4.1).mono ?_); rintro e w9 ⟨v0, rfl, ho0, hb⟩; refine ⟨_, rfl, ?_⟩; have O0 := sqL ho0 (sqB1 HB E0); replace B0 := sqT B0 hb; replace HB := sqS (sqB1 HB E0) hb; (try clear ho0)))
  go_loopg [3, 5] k (fun kq v3 v5 w' => ∃ (x3_1 : Int) (x5_1 : Int), v3 = .int .i64 x3_1 ∧ v5 = .int .i64 x5_1 ∧ Aside0 (spec_CrossingsOf.l0 kq x3_1 t1 x5_1 = some r) ∧ Aside0 (kq ≤ k) ∧ Aside0 (Kd.R (Kd.int .i64) 3 w' w.heap.size (fun _ => True) v0 t1) ∧ Aside0 (w'.heap[g0]? = some (.cells #[.int .i64 a0_0, .int .i64 a0_1] 31 (0, 0))) ∧ Aside0 (Below w.heap.size w w'))
  case atStart => exact ⟨(0), (0), Z1, Z1, H', ⟨Nat.le_refl _⟩, ⟨sqR O0⟩, ⟨sqK B0⟩, ⟨sqB1 HB E0⟩⟩
  case round =>
   clear H'
   obtain ⟨x3_1, x5_1, rfl, rfl, HA, HK1, O1, B0, HB⟩ := hrel
   cases gk with
   | zero => exact absurd HA.out (by simp [spec_CrossingsOf.l0])
   | succ k1 =>
    have H := HA.out
    clear HA
    simp only [spec_CrossingsOf.l0] at H
    by_cases c10 : x5_1 < (t1.length : Int)
    ·rw [if_pos c10] at H
     have c0 : decide (x5_1 < (t1.length : Int)) = true := decide_eq_true c10
     clear c10
     obtain ⟨c1, H⟩ := sqI H
     have c2 : decide (0 ≤ x5_1) = true := decide_eq_true c1
     clear c1
     have H' := sqa H
     clear H
     obtain ⟨Ao0, co0, eo0⟩ := Kd.R_slice O1.1
     subst eo0
     have p0 : 0 ≤ (x5_1 : Int) := of_decide_eq_true Z16
     have q0 : x5_1 < (t1.length : Int) := of_decide_eq_true Z16
     obtain ⟨ad0, e0, hx0⟩ := Kd.at_int (Kd.R_reads' O1.1).2.2 x5_1 p0 q0
     cases e0
     replace p0 := eq_true p0
     replace q0 := eq_true q0
     go_wp2
     go_roundg k1
     case measure => have := HK1.out; omega
     case rel => exact ⟨(wrap64 (x3_1 + (rd t1 x5_1))), (wrap64 (x5_1 + 1)), Z1, Z1, H', ⟨Z2 HK1⟩, ⟨sqR O1⟩, ⟨sqK B0⟩, ⟨sqB1 HB E0⟩⟩
    rw [if_neg c10] at H
    have c0 : decide (x5_1 < (t1.length : Int)) = false := decide_eq_false c10
    clear c10
    obtain rfl := sqo H
    obtain ⟨Ao1, co1, eo1⟩ := Kd.R_slice O1.1
    subst eo1
    go_wp2
    go_ret
    exact ⟨Z5, sqB1 HB E0⟩
 obtain rfl := sqb c3
 rw [if_neg sqF] at H
 obtain rfl := sqo H
 go_enter func94, ntmps94
 go_wp2_with (first | ((with_reducible refine sqd 1 rfl ?_); refine sqBx w (sqB HB) (cs := #[.int .i64 a0_0, .int .i64 a0_1]) (t := 31) ?_; intro g0 hg w0 B0 E0 HB hb; clear hb hg; obtain ⟨_, _, _, _⟩ := sqY2 B0) | ((with_reducible refine sqc 77 rfl ?_); refine sqC (some 7) func77 #[.agg #[.int .i64 a0_0, .int .i64 a0_1]] ?_; (with_reducible refine (spec_FractionOk.calls k a0_0 a0_1 false _ A2.1).mono ?_); refine sqV fun w1 hb => ?_; replace B0 := sqT B0 hb; replace HB := sqS (sqB1 HB E0) hb))
 go_ret
 exact ⟨Z5, sqB1 HB E0⟩

/-! ### spec_KindOf: function 131 -/
def spec_KindOf.f (k : Nat) (a0_0 : Int) (a0_1 : Int) : Option (Int) := (spec_FractionOk.f k a0_0 a0_1).bind fun t0 => (if t0 = true then (if (Int.tmod a0_0 2) = 0 then (some 0) else (if (Int.tmod a0_1 2) = 0 then (some 1) else (some 2))) else (some (-1)))
theorem spec_KindOf.mono : ∀ a0 a1 k, LeO (spec_KindOf.f k a0 a1) (spec_KindOf.f (k + 1) a0 a1) := by
 intro a0 a1 k
 unfold spec_KindOf.f
 repeat' (with_reducible first | exact spec_FractionOk.mono _ _ _ | exact LeO.refl _ | exact LeO.none _ | refine LeO.ite ?_ ?_ | refine LeO.bind ?_ fun _ => ?_)
theorem spec_KindOf.calls (k : Nat) (a0_0 : Int) (a0_1 : Int) (r : Int) (w : World) (H : spec_KindOf.f k a0_0 a0_1 = some r) :
  Calls prog 131 #[.agg #[.int .i64 a0_0, .int .i64 a0_1]] w fun e w' => e = .returned (.int .i64 r) ∧ Below w.heap.size w w' := by
 have hu31 := underlying31
 have HB := sqh w
 unfold spec_KindOf.f at H
 obtain ⟨t0, A2, H⟩ := sqD H
 by_cases c3 : t0 = true
 ·subst c3
  rw [if_pos rfl] at H
  by_cases c4 : (Int.tmod a0_0 2) = 0
  ·rw [if_pos c4] at H
   have c4b0 : ((Int.tmod a0_0 2) == 0) = true := sqe1 c4
   have c4b1 : ((Int.tmod a0_0 2) != 0) = false := sqn0 c4
   clear c4
   obtain rfl := sqo H
   go_enter func131, ntmps131
   go_wp2_with (first | ((with_reducible refine sqd 1 rfl ?_); refine sqBx w (sqB HB) (cs := #[.int .i64 a0_0, .int .i64 a0_1]) (t := 31) ?_; intro g0 hg w5 B0 E0 HB hb; clear hb hg; obtain ⟨_, _, _, _⟩ := sqY2 B0) | ((with_reducible refine sqc 77 rfl ?_); refine sqC (some 5) func77 #[.agg #[.int .i64 a0_0, .int .i64 a0_1]] ?_; (with_reducible refine (spec_FractionOk.calls k a0_0 a0_1 true _ A2.1).mono ?_); refine sqV fun w7 hb => ?_; replace B0 := sqT B0 hb; replace HB := sqS (sqB1 HB E0) hb; obtain ⟨_, _, _, _⟩ := sqY2 B0))
   go_ret
   exact ⟨Z5, sqB1 HB E0⟩
  rw [if_neg c4] at H
  have c4b0 : ((Int.tmod a0_0 2) == 0) = false := sqe0 c4
  have c4b1 : ((Int.tmod a0_0 2) != 0) = true := sqn1 c4
  by_cases c9 : (Int.tmod a0_1 2) = 0
  ·rw [if_pos c9] at H
   have c9b0 : ((Int.tmod a0_1 2) == 0) = true := sqe1 c9
   have c9b1 : ((Int.tmod a0_1 2) != 0) = false := sqn0 c9
   clear c9
   obtain rfl := sqo H
   go_enter func131, ntmps131
   go_wp2_with (first | ((with_reducible refine sqd 1 rfl ?_); refine sqBx w (sqB HB) (cs := #[.int .i64 a0_0, .int .i64 a0_1]) (t := 31) ?_; intro g0 hg w0 B0 E0 HB hb; clear hb hg; obtain ⟨_, _, _, _⟩ := sqY2 B0) | ((with_reducible refine sqc 77 rfl ?_); refine sqC (some 5) func77 #[.agg #[.int .i64 a0_0, .int .i64 a0_1]] ?_; (with_reducible refine (spec_FractionOk.calls k a0_0 a0_1 true _ A2.1).mono ?_); refine sqV fun w1 hb => ?_; replace B0 := sqT B0 hb; replace HB := sqS (sqB1 HB E0) hb; obtain ⟨_, _, _, _⟩ := sqY2 B0))
   go_ret
   exact ⟨Z5, sqB1 HB E0⟩
  rw [if_neg c9] at H
  have c9b0 : ((Int.tmod a0_1 2) == 0) = false := sqe0 c9
  have c9b1 : ((Int.tmod a0_1 2) != 0) = true := sqn1 c9
  obtain rfl := sqo H
  go_enter func131, ntmps131
  go_wp2_with (first | ((with_reducible refine sqd 1 rfl ?_); refine sqBx w (sqB HB) (cs := #[.int .i64 a0_0, .int .i64 a0_1]) (t := 31) ?_; intro g0 hg w2 B0 E0 HB hb; clear hb hg; obtain ⟨_, _, _, _⟩ := sqY2 B0) | ((with_reducible refine sqc 77 rfl ?_); refine sqC (some 5) func77 #[.agg #[.int .i64 a0_0, .int .i64 a0_1]] ?_; (with_reducible refine (spec_FractionOk.calls k a0_0 a0_1 true _ A2.1).mono ?_); refine sqV fun w3 hb => ?_; replace B0 := sqT B0 hb; replace HB := sqS (sqB1 HB E0) hb; obtain ⟨_, _, _, _⟩ := sqY2 B0))
  go_ret
  exact ⟨Z5, sqB1 HB E0⟩
 obtain rfl := sqb c3
 rw [if_neg sqF] at H
 obtain rfl := sqo H
 go_enter func131, ntmps131
 go_wp2_with (first | ((with_reducible refine sqd 1 rfl ?_); refine sqBx w (sqB HB) (cs := #[.int .i64 a0_0, .int .i64 a0_1]) (t := 31) ?_; intro g0 hg w4 B0 E0 HB hb; clear hb hg; obtain ⟨_, _, _, _⟩ := sqY2 B0) | ((with_reducible refine sqc 77 rfl ?_); refine sqC (some 5) func77 #[.agg #[.int .i64 a0_0, .int .i64 a0_1]] ?_; (with_reducible refine (spec_FractionOk.calls k a0_0 a0_1 false _ A2.1).mono ?_); refine sqV fun w6 hb => ?_; replace B0 := sqT B0 hb; replace HB := sqS (sqB1 HB E0) hb))
 go_ret
 exact ⟨Z5, sqB1 HB E0⟩

/-! ### spec_EndsFor: function 95 -/
def spec_EndsFor.f (k : Nat) (a0_0 : Int) (a0_1 : Int) : Option (List Int) := (spec_KindOf.f k a0_0 a0_1).bind fun t0 => (if t0 = 0 then (some (([1, 0, 3, 2] : List Int))) else (if t0 = 1 then (some (([2, 3, 0, 1] : List Int))) else (if t0 = 2 then (some (([3, 2, 1, 0] : List Int))) else (some (([] : List Int))))))
theorem spec_EndsFor.mono : ∀ a0 a1 k, LeO (spec_EndsFor.f k a0 a1) (spec_EndsFor.f (k + 1) a0 a1) := by
 intro a0 a1 k
 unfold spec_EndsFor.f
 repeat' (with_reducible first | exact spec_KindOf.mono _ _ _ | exact LeO.refl _ | exact LeO.none _ | refine LeO.ite ?_ ?_ | refine LeO.bind ?_ fun _ => ?_)
theorem spec_EndsFor.calls (k : Nat) (a0_0 : Int) (a0_1 : Int) (r : List Int) (w : World) (H : spec_EndsFor.f k a0_0 a0_1 = some r) :
  Calls prog 95 #[.agg #[.int .i64 a0_0, .int .i64 a0_1]] w fun e w' => ∃ v0_ : Value, e = .returned (v0_) ∧ Kd.R (Kd.int .i64) 3 w' w.heap.size (fun _ => True) v0_ r ∧ Below w.heap.size w w' := by
 have hu31 := underlying31
 have HB := sqh w
 unfold spec_EndsFor.f at H
 obtain ⟨t0, A2, H⟩ := sqD H
 by_cases c3 : t0 = 0
 ·rw [if_pos c3] at H
  have c3b0 : (t0 == 0) = true := sqe1 c3
  have c3b1 : (t0 != 0) = false := sqn0 c3
  clear c3
  obtain ⟨y0, hy0⟩ : ∃ y_ : List Int, y_ = (([1, 0, 3, 2] : List Int)) := ⟨_, rfl⟩
  replace H : (some y0) = some r := sqW hy0 H
  have Ny0 := sqa hy0
  clear hy0
  obtain rfl := sqo H
  go_enter func95, ntmps95
  go_wp2_with (first | ((with_reducible refine sqd 1 rfl ?_); refine sqBx w (sqB HB) (cs := #[.int .i64 a0_0, .int .i64 a0_1]) (t := 31) ?_; intro g0 hg w4 B0 E0 HB hb; clear hb hg; obtain ⟨_, _, _, _⟩ := sqY2 B0) | ((with_reducible refine sqc 131 rfl ?_); refine sqC (some 4) func131 #[.agg #[.int .i64 a0_0, .int .i64 a0_1]] ?_; (with_reducible refine (spec_KindOf.calls k a0_0 a0_1 t0 _ A2.1).mono ?_); refine sqV fun w6 hb => ?_; replace B0 := sqT B0 hb; replace HB := sqS (sqB1 HB E0) hb) | ((with_reducible refine sqd 7 rfl ?_); refine Kd.R_lit (Kd.int .i64) _ 3 ?hg (N := 7) ?hd (xs := ([1, 0, 3, 2] : List Int)) (inner := [.int .i64 1, .int .i64 0, .int .i64 3, .int .i64 2]) (ok := fun _ => True) (okp := fun _ => True) ?hr ?hp (fun _ hk => hk) trivial (Below.refl _ _) (Nat.le_refl _) (by simp) ?_; (case hd => rfl); (case hg => rfl); (case hr => exact Z17); (case hp => exact Z52); intro v0 w7 ho8 hb hg_ hnew_; clear hg_ hnew_; (first | rw [← Ny0.out] at ho8 | (simp only [Int.reduceToNat] at ho8; rw [← Ny0.out] at ho8)); have O0 := sqL ho8 (sqB1 HB E0); replace B0 := sqT B0 hb; replace HB := sqS (sqB1 HB E0) hb; clear hb ho8))
  go_ret
  exact ⟨_, Z5, Z25 O0, sqB1 HB E0⟩
 rw [if_neg c3] at H
 have c3b0 : (t0 == 0) = false := sqe0 c3
 have c3b1 : (t0 != 0) = true := sqn1 c3
 by_cases c9 : t0 = 1
 ·rw [if_pos c9] at H
  have c9b0 : (t0 == 1) = true := sqe1 c9
  have c9b1 : (t0 != 1) = false := sqn0 c9
  clear c9
  obtain ⟨y1, hy1⟩ : ∃ y_ : List Int, y_ = (([2, 3, 0, 1] : List Int)) := ⟨_, rfl⟩
  replace H : (some y1) = some r := sqW hy1 H
  have Ny1 := sqa hy1
  clear hy1
  obtain rfl := sqo H
  go_enter func95, ntmps95
  go_wp2_with (first | ((with_reducible refine sqd 1 rfl ?_); refine sqBx w (sqB HB) (cs := #[.int .i64 a0_0, .int .i64 a0_1]) (t := 31) ?_; intro g0 hg w0 B0 E0 HB hb; clear hb hg; obtain ⟨_, _, _, _⟩ := sqY2 B0) | ((with_reducible refine sqc 131 rfl ?_); refine sqC (some 4) func131 #[.agg #[.int .i64 a0_0, .int .i64 a0_1]] ?_; (with_reducible refine (spec_KindOf.calls k a0_0 a0_1 t0 _ A2.1).mono ?_); refine sqV fun w1 hb => ?_; replace B0 := sqT B0 hb; replace HB := sqS (sqB1 HB E0) hb) | ((with_reducible refine sqd 10 rfl ?_); refine Kd.R_lit (Kd.int .i64) _ 3 ?hg (N := 10) ?hd (xs := ([2, 3, 0, 1] : List Int)) (inner := [.int .i64 2, .int .i64 3, .int .i64 0, .int .i64 1]) (ok := fun _ => True) (okp := fun _ => True) ?hr ?hp (fun _ hk => hk) trivial (Below.refl _ _) (Nat.le_refl _) (by simp) ?_; (case hd => rfl); (case hg => rfl); (case hr => exact Z17); (case hp => exact Z53); intro v1 w2 ho0 hb hg_ hnew_; clear hg_ hnew_; (first | rw [← Ny1.out] at ho0 | (simp only [Int.reduceToNat] at ho0; rw [← Ny1.out] at ho0)); have O1 := sqL ho0 (sqB1 HB E0); replace B0 := sqT B0 hb; replace HB := sqS (sqB1 HB E0) hb; clear hb ho0))
  go_ret
  exact ⟨_, Z5, Z25 O1, sqB1 HB E0⟩
 rw [if_neg c9] at H
 have c9b0 : (t0 == 1) = false := sqe0 c9
 have c9b1 : (t0 != 1) = true := sqn1 c9
 by_cases c0 : t0 = 2
 ·rw [if_pos c0] at H
  have c1 := sqe1 c0
  have c2 := sqn0 c0
  clear c0
  obtain ⟨y2, hy2⟩ : ∃ y_ : List Int, y_ = (([3, 2, 1, 0] : List Int)) := ⟨_, rfl⟩
  replace H : (some y2) = some r := sqW hy2 H
  have Ny2 := sqa hy2
  clear hy2
  obtain rfl := sqo H
  go_enter func95, ntmps95
  go_wp2_with (first | ((with_reducible refine sqd 1 rfl ?_); refine sqBx w (sqB HB) (cs := #[.int .i64 a0_0, .int .i64 a0_1]) (t := 31) ?_; intro g0 hg w3 B0 E0 HB hb; clear hb hg; obtain ⟨_, _, _, _⟩ := sqY2 B0) | ((with_reducible refine sqc 131 rfl ?_); refine sqC (some 4) func131 #[.agg #[.int .i64 a0_0, .int .i64 a0_1]] ?_; (with_reducible refine (spec_KindOf.calls k a0_0 a0_1 t0 _ A2.1).mono ?_); refine sqV fun w5 hb => ?_; replace B0 := sqT B0 hb; replace HB := sqS (sqB1 HB E0) hb) | ((with_reducible refine sqd 13 rfl ?_); refine Kd.R_lit (Kd.int .i64) _ 3 ?hg (N := 13) ?hd (xs := ([3, 2, 1, 0] : List Int)) (inner := [.int .i64 3, .int .i64 2, .int .i64 1, .int .i64 0]) (ok := fun _ => True) (okp := fun _ => True) ?hr ?hp (fun _ hk => hk) trivial (Below.refl _ _) (Nat.le_refl _) (by simp) ?_; (case hd => rfl); (case hg => rfl); (case hr => exact Z17); (case hp => exact Z54); intro v2 w8 ho1 hb hg_ hnew_; clear hg_ hnew_; (first | rw [← Ny2.out] at ho1 | (simp only [Int.reduceToNat] at ho1; rw [← Ny2.out] at ho1)); have O2 := sqL ho1 (sqB1 HB E0); replace B0 := sqT B0 hb; replace HB := sqS (sqB1 HB E0) hb; clear hb ho1))
  go_ret
  exact ⟨_, Z5, Z25 O2, sqB1 HB E0⟩
 rw [if_neg c0] at H
 have c1 := sqe0 c0
 have c2 := sqn1 c0
 obtain ⟨y3, hy3⟩ : ∃ y_ : List Int, y_ = (([] : List Int)) := ⟨_, rfl⟩
 replace H : (some y3) = some r := sqW hy3 H
 have Ny3 := sqa hy3
 clear hy3
 obtain rfl := sqo H
 go_enter func95, ntmps95
 go_wp2_with (first | ((with_reducible refine sqd 1 rfl ?_); refine sqBx w (sqB HB) (cs := #[.int .i64 a0_0, .int .i64 a0_1]) (t := 31) ?_; intro g0 hg w9 B0 E0 HB hb; clear hb hg; obtain ⟨_, _, _, _⟩ := sqY2 B0) | ((with_reducible refine sqc 131 rfl ?_); refine sqC (some 4) func131 #[.agg #[.int .i64 a0_0, .int .i64 a0_1]] ?_; (with_reducible refine (spec_KindOf.calls k a0_0 a0_1 t0 _ A2.1).mono ?_); refine sqV fun w23 hb => ?_; replace B0 := sqT B0 hb; replace HB := sqS (sqB1 HB E0) hb) | ((with_reducible refine sqd 14 rfl ?_); refine Kd.R_lit (Kd.int .i64) _ 3 ?hg (N := 14) ?hd (xs := ([] : List Int)) (inner := []) (ok := fun _ => True) (okp := fun _ => True) ?hr ?hp (fun _ hk => hk) trivial (Below.refl _ _) (Nat.le_refl _) (by simp) ?_; (case hd => rfl); (case hg => rfl); (case hr => exact Z17); (case hp => exact Z23); intro v3 w24 ho2 hb hg_ hnew_; clear hg_ hnew_; (first | rw [← Ny3.out] at ho2 | (simp only [Int.reduceToNat] at ho2; rw [← Ny3.out] at ho2)); have O3 := sqL ho2 (sqB1 HB E0); replace B0 := sqT B0 hb; replace HB := sqS (sqB1 HB E0) hb; clear hb ho2))
 go_ret
 exact ⟨_, Z5, Z25 O3, sqB1 HB E0⟩
end Go.Proofs.YtofmlbgfcohhoaaGreatDoor.PFnDeskLine
