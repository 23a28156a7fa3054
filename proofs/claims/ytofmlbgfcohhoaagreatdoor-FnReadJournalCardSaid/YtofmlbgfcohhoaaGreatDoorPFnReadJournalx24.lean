import Derived.Test.YtofmlbgfcohhoaaGreatDoorPFnReadJournalx16
set_option maxHeartbeats 8000000
set_option maxRecDepth 100000
namespace Go.Proofs.YtofmlbgfcohhoaaGreatDoor.PFnReadJournal
open Go.RowKit Go.Proofs.YtofmlbgfcohhoaaGreatDoorW.PrintWords Go.Proofs.YtofmlbgfcohhoaaGreatDoorW.PrintLast Go.Proofs.YtofmlbgfcohhoaaGreatDoorW.PrintMore Go.Proofs.YtofmlbgfcohhoaaGreatDoor.Lib Go.Proofs.Tryz
attribute [local go_sem] max2_int min2_int max_two min_two max_three min_three max_four min_four
set_option linter.unusedVariables false
set_option linter.unusedSimpArgs false

def F37.l0 : Nat → ByteArray → Int → Int → Option (ByteArray)
 | 0, _, _, _ => none
 | k + 1, x3, x0, x1 => if x0 = 0 then (some x3) else (if x0 < 0 then (if x3.size + 1 ≤ 9223372036854775807 then (F37.l0 k (x3 ++ (⟨#[84]⟩ : ByteArray)) (wrap64 (x0 + x1)) x1) else (none)) else (if x3.size + 1 ≤ 9223372036854775807 then ((F49.f k (wrap64 (-x1)) x0).bind fun bt0 => (F37.l0 k (x3 ++ (⟨#[82]⟩ : ByteArray)) bt0.1 bt0.2)) else (none)))
def F37.f (k : Nat) (a0_0 : Int) (a0_1 : Int) : Option (ByteArray) := F37.l0 k (⟨#[]⟩ : ByteArray) a0_0 a0_1
abbrev F37.M (k : Nat) : Prop := (∀ y0 y1 y2, LeO (F37.l0 k y0 y1 y2) (F37.l0 (k + 1) y0 y1 y2))
theorem F37.mt : ∀ k, F37.M k → F37.M (k + 1) ∧ ∀ a0 a1, LeO (F37.f k a0 a1) (F37.f (k + 1) a0 a1) := by
  rintro k ih0
  refine ⟨?_, ?_⟩ <;> (try unfold F37.M) <;> intros <;> (first | unfold F37.l0 | unfold F37.f) <;> repeat' (with_reducible first | exact ih0 _ _ _ | exact F49.m _ _ _ | exact LeO.refl _ | exact LeO.none _ | refine LeO.ite ?_ ?_ | refine LeO.bind ?_ fun _ => ?_)
theorem F37.ml : ∀ k, F37.M k
 | 0 => fun _ _ _ r h => by simp [F37.l0] at h
 | k + 1 => (F37.mt k (F37.ml k)).1
theorem F37.m a0 a1 k : LeO (F37.f k a0 a1) (F37.f (k + 1) a0 a1) := (F37.mt k (F37.ml k)).2 a0 a1
theorem F37.c (k : Nat) (a0_0 : Int) (a0_1 : Int) (r : ByteArray) (w : World) (H : F37.f k a0_0 a0_1 = some r) :
  Calls prog 105 #[.agg #[.int .i64 a0_0, .int .i64 a0_1]] w fun e w' => e = .returned (.string r) ∧ Below w.heap.size w w' := by
 have hu31 := underlying31
 have HB := sqh w
 unfold F37.f at H
 have H' := sqa H
 clear H
 go_enter func105, ntmps105
 go_wp2_with (first | ((with_reducible refine sqd 1 rfl ?_); refine sqBx w (sqB HB) (cs := #[.int .i64 a0_0, .int .i64 a0_1]) (t := 31) ?_; intro g0 hg w2 B0 E0 HB hb; clear hb hg))
 go_loopg [3] k (fun kq v3 w' => ∃ (x3_1 : ByteArray) (x0 : Int) (x1 : Int), v3 = .string x3_1 ∧ Aside0 (F37.l0 kq x3_1 x0 x1 = some r) ∧ Aside0 (kq ≤ k) ∧ Aside0 (w'.heap[g0]? = some (.cells #[.int .i64 x0, .int .i64 x1] 31 (0, 0))) ∧ Aside0 (Below w.heap.size w w'))
 case atStart => exact ⟨((⟨#[]⟩ : ByteArray)), (a0_0), (a0_1), Z2, H', ⟨Nat.le_refl _⟩, ⟨sqK B0⟩, ⟨sqB1 HB E0⟩⟩
 case round =>
  clear H'
  obtain ⟨x3_1, x0, x1, rfl, HA, HK1, B0, HB⟩ := hrel
  cases gk with
  | zero => exact absurd HA.out (by simp [F37.l0])
  | succ k1 =>
   have H := HA.out
   clear HA
   simp only [F37.l0] at H
   by_cases c3 : x0 = 0
   ·rw [if_pos c3] at H
    have c3b0 : (x0 == 0) = true := sqe1 c3
    have c3b1 : (x0 != 0) = false := sqn0 c3
    clear c3
    obtain rfl := sqo H
    have := sqY2 B0
    go_wp2
    go_ret
    exact ⟨Z14, sqB1 HB E0⟩
   rw [if_neg c3] at H
   have c3b0 : (x0 == 0) = false := sqe0 c3
   have c3b1 : (x0 != 0) = true := sqn1 c3
   by_cases c5 : x0 < 0
   ·rw [if_pos c5] at H
    have c5b0 : decide (x0 < 0) = true := decide_eq_true c5
    clear c5
    obtain ⟨c6, H⟩ := sqI H
    have c6b0 := eq_true c6
    have c6b1 : decide (x3_1.size + 1 ≤ 9223372036854775807) = true := decide_eq_true c6
    try have c6b2 : (9223372036854775807 < x3_1.size + 1) = False := eq_false (Nat.not_lt.2 c6)
    have H' := sqa H
    clear H
    have := sqY2 B0
    go_wp2
    go_roundg k1
    case measure => have := HK1.out; omega
    case rel => exact ⟨(x3_1 ++ (⟨#[84]⟩ : ByteArray)), (wrap64 (x0 + x1)), (x1), Z2, H', ⟨Z15 HK1⟩, ⟨by refine sqPut (cs := #[.int .i64 x0, .int .i64 x1]) ?_ 0; exact sqK B0⟩, ⟨sqB1 HB E0⟩⟩
   rw [if_neg c5] at H
   have c5b0 : decide (x0 < 0) = false := decide_eq_false c5
   clear c5
   obtain ⟨c8, H⟩ := sqI H
   have c8b0 := eq_true c8
   have c8b1 : decide (x3_1.size + 1 ≤ 9223372036854775807) = true := decide_eq_true c8
   try have c8b2 : (9223372036854775807 < x3_1.size + 1) = False := eq_false (Nat.not_lt.2 c8)
   obtain ⟨⟨t0, t1⟩, A9, H⟩ := sqD H
   try dsimp only at H
   have H' := sqa H
   clear H
   have := sqY2 B0
   go_wp2_with (first | ((with_reducible refine sqc 120 rfl ?_); refine sqC (some 25) func120 #[.int .i64 (wrap64 (-x1)), .int .i64 x0] ?_; (with_reducible refine (F49.c k1 (wrap64 (-x1)) x0 t0 t1 _ A9.1).mono ?_); refine sqV fun w0 hb => ?_; replace B0 := sqT B0 hb; replace HB := sqS (sqB1 HB E0) hb; have := sqY2 B0))
   go_roundg k1
   case measure => have := HK1.out; omega
   case rel => exact ⟨(x3_1 ++ (⟨#[82]⟩ : ByteArray)), (t0), (t1), Z2, H', ⟨Z15 HK1⟩, ⟨by refine sqPut (cs := #[.int .i64 t0, .int .i64 x1]) ?_ 1; refine sqPut (cs := #[.int .i64 x0, .int .i64 x1]) ?_ 0; exact sqK B0⟩, ⟨sqB1 HB E0⟩⟩

def F82.f (a0_0 : Int) (a0_1 : Int) : Option (Int) := if a0_1 = 0 then (none) else (if (wrap64 ((wrap64 (Int.tdiv a0_0 a0_1)) * a0_1)) < a0_0 then (some (wrap64 ((wrap64 (Int.tdiv a0_0 a0_1)) + 1))) else (some (wrap64 (Int.tdiv a0_0 a0_1))))
theorem F82.c (a0_0 : Int) (a0_1 : Int) (r : Int) (w : World) (H : F82.f a0_0 a0_1 = some r) :
  Calls prog 180 #[.agg #[.int .i64 a0_0, .int .i64 a0_1]] w fun e w' => e = .returned (.int .i64 r) ∧ Below w.heap.size w w' := by
 have hu31 := underlying31
 have HB := sqh w
 unfold F82.f at H
 by_cases c2 : a0_1 = 0
 ·rw [if_pos c2] at H
  exact absurd H (by simp)
 rw [if_neg c2] at H
 have c2b0 : (a0_1 == 0) = false := sqe0 c2
 have c2b1 : (a0_1 != 0) = true := sqn1 c2
 by_cases c3 : (wrap64 ((wrap64 (Int.tdiv a0_0 a0_1)) * a0_1)) < a0_0
 ·rw [if_pos c3] at H
  have c3b0 : decide ((wrap64 ((wrap64 (Int.tdiv a0_0 a0_1)) * a0_1)) < a0_0) = true := decide_eq_true c3
  clear c3
  obtain rfl := sqo H
  go_enter func180, ntmps180
  go_wp2_with (first | ((with_reducible refine sqd 1 rfl ?_); refine sqBx w (sqB HB) (cs := #[.int .i64 a0_0, .int .i64 a0_1]) (t := 31) ?_; intro g0 hg w4 B0 E0 HB hb; clear hb hg; have := sqY2 B0))
  go_ret
  exact ⟨Z14, sqB1 HB E0⟩
 rw [if_neg c3] at H
 have c3b0 : decide ((wrap64 ((wrap64 (Int.tdiv a0_0 a0_1)) * a0_1)) < a0_0) = false := decide_eq_false c3
 clear c3
 obtain rfl := sqo H
 go_enter func180, ntmps180
 go_wp2_with (first | ((with_reducible refine sqd 1 rfl ?_); refine sqBx w (sqB HB) (cs := #[.int .i64 a0_0, .int .i64 a0_1]) (t := 31) ?_; intro g0 hg w6 B0 E0 HB hb; clear hb hg; have := sqY2 B0))
 go_ret
 exact ⟨Z14, sqB1 HB E0⟩

def F41.l0 : Nat → List Int → Int → Int → Option (List Int)
 | 0, _, _, _ => none
 | k + 1, x3, x0, x1 => (F82.f x0 x1).bind fun t0 => (if x3.length < 17592186044416 then ((some (x3 ++ [t0] : List Int)).bind fun y0 => (if (wrap64 ((wrap64 (t0 * x1)) - x0)) = 0 then (some y0) else (F41.l0 k y0 x1 (wrap64 ((wrap64 (t0 * x1)) - x0))))) else (none))
def F41.f (k : Nat) (a0_0 : Int) (a0_1 : Int) : Option (List Int) := F41.l0 k (([] : List Int)) a0_0 a0_1
abbrev F41.M (k : Nat) : Prop := (∀ y0 y1 y2, LeO (F41.l0 k y0 y1 y2) (F41.l0 (k + 1) y0 y1 y2))
theorem F41.mt : ∀ k, F41.M k → F41.M (k + 1) ∧ ∀ a0 a1, LeO (F41.f k a0 a1) (F41.f (k + 1) a0 a1) := by
  rintro k ih0
  refine ⟨?_, ?_⟩ <;> (try unfold F41.M) <;> intros <;> (first | unfold F41.l0 | unfold F41.f) <;> repeat' (with_reducible first | exact ih0 _ _ _ | exact LeO.refl _ | exact LeO.none _ | refine LeO.ite ?_ ?_ | refine LeO.bind ?_ fun _ => ?_)
theorem F41.ml : ∀ k, F41.M k
 | 0 => fun _ _ _ r h => by simp [F41.l0] at h
 | k + 1 => (F41.mt k (F41.ml k)).1
theorem F41.m a0 a1 k : LeO (F41.f k a0 a1) (F41.f (k + 1) a0 a1) := (F41.mt k (F41.ml k)).2 a0 a1
theorem F41.c (k : Nat) (a0_0 : Int) (a0_1 : Int) (r : List Int) (w : World) (H : F41.f k a0_0 a0_1 = some r) :
  Calls prog 165 #[.agg #[.int .i64 a0_0, .int .i64 a0_1]] w fun e w' => ∃ v0_ : Value, e = .returned (v0_) ∧ Kd.R (Kd.int .i64) 3 w' w.heap.size (fun _ => True) v0_ r ∧ Below w.heap.size w w' := by
 have hu31 := underlying31
 have HB := sqh w
 unfold F41.f at H
 obtain ⟨y0, hy0⟩ : ∃ y_ : List Int, y_ = (([] : List Int)) := ⟨_, rfl⟩
 replace H : (F41.l0 k y0 a0_0 a0_1) = some r := sqW hy0 H
 have Ny0 := sqa hy0
 clear hy0
 have H' := sqa H
 clear H
 go_enter func165, ntmps165
 go_wp2_with (first | ((with_reducible refine sqd 1 rfl ?_); refine sqBx w (sqB HB) (cs := #[.int .i64 a0_0, .int .i64 a0_1]) (t := 31) ?_; intro g0 hg w2 B0 E0 HB hb; clear hb hg) | ((with_reducible refine sqd 6 rfl ?_); refine Kd.R_lit (Kd.int .i64) _ 3 ?hg (N := 6) ?hd (xs := ([] : List Int)) (inner := []) (ok := fun _ => True) (okp := fun _ => True) ?hr ?hp (fun _ hk => hk) trivial (Below.refl _ _) (Nat.le_refl _) (by simp) ?_; (case hd => rfl); (case hg => rfl); (case hr => exact Z8); (case hp => exact Z23); intro v0 w3 ho4 hb hg_ hnew_; clear hg_ hnew_; (first | rw [← Ny0.out] at ho4 | (simp only [Int.reduceToNat] at ho4; rw [← Ny0.out] at ho4)); have O0 := sqL ho4 (sqB1 HB E0); replace B0 := sqT B0 hb; replace HB := sqS (sqB1 HB E0) hb; clear hb ho4))
 go_loopg [3] k (fun kq v3 w' => ∃ (x3_1 : List Int) (x0 : Int) (x1 : Int), Aside0 (F41.l0 kq x3_1 x0 x1 = some r) ∧ Aside0 (kq ≤ k) ∧ Aside0 (Kd.R (Kd.int .i64) 3 w' w.heap.size (fun _ => True) v3 x3_1) ∧ Aside0 (w'.heap[g0]? = some (.cells #[.int .i64 x0, .int .i64 x1] 31 (0, 0))) ∧ Aside0 (Below w.heap.size w w'))
 case atStart => exact ⟨(y0), (a0_0), (a0_1), H', ⟨Nat.le_refl _⟩, ⟨sqR O0⟩, ⟨sqK B0⟩, ⟨sqB1 HB E0⟩⟩
 case round =>
  clear H'
  obtain ⟨x3_1, x0, x1, HA, HK1, O1, B0, HB⟩ := hrel
  cases gk with
  | zero => exact absurd HA.out (by simp [F41.l0])
  | succ k1 =>
   have H := HA.out
   clear HA
   simp only [F41.l0] at H
   obtain ⟨t0, A5, H⟩ := sqD H
   obtain ⟨c6, H⟩ := sqI H
   have LMc6 := sqa c6
   clear c6
   obtain ⟨y1, hy1⟩ : ∃ y_ : List Int, y_ = (x3_1 ++ [t0]) := ⟨_, rfl⟩
   replace H : (if (wrap64 ((wrap64 (t0 * x1)) - x0)) = 0 then (some y1) else (F41.l0 k1 y1 x1 (wrap64 ((wrap64 (t0 * x1)) - x0)))) = some r := sqW hy1 H
   have Ny1 := sqa hy1
   clear hy1
   by_cases c7 : (wrap64 ((wrap64 (t0 * x1)) - x0)) = 0
   ·rw [if_pos c7] at H
    have c7b0 : ((wrap64 ((wrap64 (t0 * x1)) - x0)) == 0) = true := sqe1 c7
    have c7b1 : ((wrap64 ((wrap64 (t0 * x1)) - x0)) != 0) = false := sqn0 c7
    clear c7
    obtain rfl := sqo H
    have := sqY2 B0
    go_wp2_with (first | ((with_reducible refine sqc 180 rfl ?_); refine sqC (some 8) func180 #[.agg #[.int .i64 x0, .int .i64 x1]] ?_; (with_reducible refine (F82.c x0 x1 t0 _ A5.1).mono ?_); refine sqV fun w9 hb => ?_; replace O1 := sqU O1 hb; replace B0 := sqT B0 hb; replace HB := sqS (sqB1 HB E0) hb) | ((with_reducible refine gate_builtin (b := .append) (xs := #[.tmp 9, .tmp 11]) rfl ?_); at_builtin; refine Kd.R_append (Kd.int .i64) (w0 := w) w.heap.size rfl (.tmp 9) (.tmp 11) 109 3 (.int .i64 0) 8 rfl underlying109 info3 rfl (by decide) (by omega) u3 x3_1 t0 [.int .i64 t0] (fun _ => True) (fun _ => False) rfl rfl ?aP (fun _ hk => hk.elim) ?aF ?aO ?aB ?aS ?aL ?_; (case aP => exact rfl); (case aB => exact (sqB1 HB E0)); (case aF => exact Z24); (case aO => exact (sqR O1)); (case aS => exact (below_size (sqB1 HB E0))); (case aL => exact Z15 LMc6); intro v1 w1 ho hb hg hat; rw [← Ny1.out] at ho; replace B0 := sqa (blk_grown (sqK B0) hg (Kd.R_ne O1.1 B0.1 (by decide))); replace HB := sqa (hb); have O2 := sqa (ho); clear O1; clear ho hb hg hat; have := sqY2 B0))
    go_ret
    exact ⟨_, Z14, Z25 O2, sqB1 HB E0⟩
   rw [if_neg c7] at H
   have c7b0 : ((wrap64 ((wrap64 (t0 * x1)) - x0)) == 0) = false := sqe0 c7
   have c7b1 : ((wrap64 ((wrap64 (t0 * x1)) - x0)) != 0) = true := sqn1 c7
   have H' := sqa H
   clear H
   have := sqY2 B0
   go_wp2_with (first | ((with_reducible refine sqc 180 rfl ?_); refine sqC (some 8) func180 #[.agg #[.int .i64 x0, .int .i64 x1]] ?_; (with_reducible refine (F82.c x0 x1 t0 _ A5.1).mono ?_); refine sqV fun w4 hb => ?_; replace O1 := sqU O1 hb; replace B0 := sqT B0 hb; replace HB := sqS (sqB1 HB E0) hb) | ((with_reducible refine gate_builtin (b := .append) (xs := #[.tmp 9, .tmp 11]) rfl ?_); at_builtin; refine Kd.R_append (Kd.int .i64) (w0 := w) w.heap.size rfl (.tmp 9) (.tmp 11) 109 3 (.int .i64 0) 8 rfl underlying109 info3 rfl (by decide) (by omega) u3 x3_1 t0 [.int .i64 t0] (fun _ => True) (fun _ => False) rfl rfl ?aP (fun _ hk => hk.elim) ?aF ?aO ?aB ?aS ?aL ?_; (case aP => exact rfl); (case aB => exact (sqB1 HB E0)); (case aF => exact Z24); (case aO => exact (sqR O1)); (case aS => exact (below_size (sqB1 HB E0))); (case aL => exact Z15 LMc6); intro v1 w5 ho hb hg hat; rw [← Ny1.out] at ho; replace B0 := sqa (blk_grown (sqK B0) hg (Kd.R_ne O1.1 B0.1 (by decide))); replace HB := sqa (hb); have O2 := sqa (ho); clear O1; clear ho hb hg hat; have := sqY2 B0))
   go_roundg k1
   case measure => have := HK1.out; omega
   case rel => exact ⟨(y1), (x1), (wrap64 ((wrap64 (t0 * x1)) - x0)), H', ⟨Z15 HK1⟩, ⟨by (with_reducible repeat (first | apply Kd.R_alloc | apply Kd.R_drewN | apply Kd.R_drew)); exact Kd.R_mono (Kd.R_far (p := ⟨g0, 1, none⟩) (Kd.R_far (p := ⟨g0, 0, none⟩) (Kd.R_types O2.1 B0.1 (by decide)) (fun _ hk => hk.2) (.int .i64 x1)) (fun _ hk => hk.2) (.int .i64 (wrap64 ((wrap64 (t0 * x1)) - x0)))) (fun _ hk => trivial)⟩, ⟨by refine sqPut (cs := #[.int .i64 x1, .int .i64 x1]) ?_ 1; refine sqPut (cs := #[.int .i64 x0, .int .i64 x1]) ?_ 0; exact sqK B0⟩, ⟨sqB1 HB E0⟩⟩

def F63.f (k : Nat) (a0_0 : Int) (a0_1 : Int) : Option (List Int × Bool) := (F50.f k a0_0 a0_1 60).bind fun t0 => (if t0 = true then (if a0_1 = 0 then (some (([] : List Int), false)) else ((F41.f k a0_0 a0_1).bind fun t1 => (some (t1, true)))) else (some (([] : List Int), false)))
theorem F63.m : ∀ a0 a1 k, LeO (F63.f k a0 a1) (F63.f (k + 1) a0 a1) := by
 intro a0 a1 k
 unfold F63.f
 repeat' (with_reducible first | exact F50.m _ _ _ _ | exact F41.m _ _ _ | exact LeO.refl _ | exact LeO.none _ | refine LeO.ite ?_ ?_ | refine LeO.bind ?_ fun _ => ?_)
theorem F63.c (k : Nat) (a0_0 : Int) (a0_1 : Int) (r1 : List Int) (r2 : Bool) (w : World) (H : F63.f k a0_0 a0_1 = some (r1, r2)) :
  Calls prog 142 #[.agg #[.int .i64 a0_0, .int .i64 a0_1]] w fun e w' => ∃ v0_ : Value, e = .returned (.tuple #[v0_, .bool r2]) ∧ Kd.R (Kd.int .i64) 3 w' w.heap.size (fun _ => True) v0_ r1 ∧ Below w.heap.size w w' := by
 have hu31 := underlying31
 have HB := sqh w
 unfold F63.f at H
 obtain ⟨t0, A2, H⟩ := sqD H
 by_cases c3 : t0 = true
 ·subst c3
  rw [if_pos rfl] at H
  by_cases c4 : a0_1 = 0
  ·rw [if_pos c4] at H
   have c4b0 : (a0_1 == 0) = true := sqe1 c4
   have c4b1 : (a0_1 != 0) = false := sqn0 c4
   clear c4
   obtain ⟨rfl, rfl⟩ := sqO2 H
   go_enter func142, ntmps142
   go_wp2_with (first | ((with_reducible refine sqd 1 rfl ?_); refine sqBx w (sqB HB) (cs := #[.int .i64 a0_0, .int .i64 a0_1]) (t := 31) ?_; intro g0 hg w5 B0 E0 HB hb; clear hb hg; have := sqY2 B0) | ((with_reducible refine sqc 104 rfl ?_); refine sqC (some 5) func104 #[.agg #[.int .i64 a0_0, .int .i64 a0_1], .int .i64 60] ?_; (with_reducible refine (F50.c k a0_0 a0_1 60 true _ A2.1).mono ?_); refine sqV fun w7 hb => ?_; replace B0 := sqT B0 hb; replace HB := sqS (sqB1 HB E0) hb; have := sqY2 B0))
   go_ret2
   exact ⟨_, Z14, Z19, sqB1 HB E0⟩
  rw [if_neg c4] at H
  have c4b0 : (a0_1 == 0) = false := sqe0 c4
  have c4b1 : (a0_1 != 0) = true := sqn1 c4
  obtain ⟨t1, A9, H⟩ := sqD H
  obtain ⟨rfl, rfl⟩ := sqO2 H
  go_enter func142, ntmps142
  go_wp2_with (first | ((with_reducible refine sqd 1 rfl ?_); refine sqBx w (sqB HB) (cs := #[.int .i64 a0_0, .int .i64 a0_1]) (t := 31) ?_; intro g0 hg w0 B0 E0 HB hb; clear hb hg; have := sqY2 B0) | ((with_reducible refine sqc 104 rfl ?_); refine sqC (some 5) func104 #[.agg #[.int .i64 a0_0, .int .i64 a0_1], .int .i64 60] ?_; (with_reducible refine (F50.c k a0_0 a0_1 60 true _ A2.1).mono ?_); refine sqV fun w1 hb => ?_; replace B0 := sqT B0 hb; replace HB := sqS (sqB1 HB E0) hb; have := sqY2 B0) | ((with_reducible refine sqc 165 rfl ?_); refine sqC (some 13) func165 #[.agg #[.int .i64 a0_0, .int .i64 a0_1]] ?_; (with_reducible refine (F41.c k a0_0 a0_1 t1 _ A9.1).mono ?_); rintro e w2 ⟨v0, rfl, ho0, hb⟩; refine ⟨_, rfl, ?_⟩; have O0 := sqL ho0 (sqB1 HB E0); replace B0 := sqT B0 hb; replace HB := sqS (sqB1 HB E0) hb; (try clear ho0)))
  go_ret2
  exact ⟨_, Z14, Z25 O0, sqB1 HB E0⟩
 obtain rfl := sqb c3
 rw [if_neg sqF] at H
 obtain ⟨rfl, rfl⟩ := sqO2 H
 go_enter func142, ntmps142
 go_wp2_with (first | ((with_reducible refine sqd 1 rfl ?_); refine sqBx w (sqB HB) (cs := #[.int .i64 a0_0, .int .i64 a0_1]) (t := 31) ?_; intro g0 hg w3 B0 E0 HB hb; clear hb hg; have := sqY2 B0) | ((with_reducible refine sqc 104 rfl ?_); refine sqC (some 5) func104 #[.agg #[.int .i64 a0_0, .int .i64 a0_1], .int .i64 60] ?_; (with_reducible refine (F50.c k a0_0 a0_1 60 false _ A2.1).mono ?_); refine sqV fun w4 hb => ?_; replace B0 := sqT B0 hb; replace HB := sqS (sqB1 HB E0) hb))
 go_ret2
 exact ⟨_, Z14, Z19, sqB1 HB E0⟩

-- given: function 166 (strings_Join)

def F24.l0 : Nat → List ByteArray → List Int → Int → Int → Option (ByteArray)
 | 0, _, _, _, _ => none
 | k + 1, x3, x7, x8, x9 => if x9 < x8 then (if 0 ≤ x9 then (if x9 < (x7.length : Int) then ((strconv_Itoa.f (rd x7 x9)).bind fun t0 => (if x3.length < 8796093022208 then (F24.l0 k (x3 ++ [t0]) x7 x8 (wrap64 (x9 + 1))) else (none))) else (none)) else (none)) else ((strings_Join.f x3 (⟨#[44]⟩ : ByteArray)).bind fun t1 => (some t1))
def F24.f (k : Nat) (l0 : List Int) : Option (ByteArray) := F24.l0 k (([] : List ByteArray)) l0 (l0.length : Int) 0
abbrev F24.M (k : Nat) : Prop := (∀ y0 y1 y2 y3, LeO (F24.l0 k y0 y1 y2 y3) (F24.l0 (k + 1) y0 y1 y2 y3))
theorem F24.mt : ∀ k, F24.M k → F24.M (k + 1) ∧ ∀ a0, LeO (F24.f k a0) (F24.f (k + 1) a0) := by
  rintro k ih0
  refine ⟨?_, ?_⟩ <;> (try unfold F24.M) <;> intros <;> (first | unfold F24.l0 | unfold F24.f) <;> repeat' (with_reducible first | exact ih0 _ _ _ _ | exact LeO.refl _ | exact LeO.none _ | refine LeO.ite ?_ ?_ | refine LeO.bind ?_ fun _ => ?_)
theorem F24.ml : ∀ k, F24.M k
 | 0 => fun _ _ _ _ r h => by simp [F24.l0] at h
 | k + 1 => (F24.mt k (F24.ml k)).1
theorem F24.m a0 k : LeO (F24.f k a0) (F24.f (k + 1) a0) := (F24.mt k (F24.ml k)).2 a0
theorem F24.c (k : Nat) (A0 : Option Addr) (c0 : Nat) (l0 : List Int) (r : ByteArray) (w : World) (hG : Glob w) (hr0 : Kd.C (Kd.int .i64) w A0 l0.length l0) (hc0 : l0.length ≤ c0) (H : F24.f k l0 = some r) :
  Calls prog 143 #[.slice A0 l0.length c0] w fun e w' => e = .returned (.string r) ∧ Below w.heap.size w w' := by
 have HR0 := sqa hr0
 have HC0 := sqa hc0
 clear hr0 hc0
 have HB := sqh w
 unfold F24.f at H
 obtain ⟨y0, hy0⟩ : ∃ y_ : List ByteArray, y_ = (([] : List ByteArray)) := ⟨_, rfl⟩
 replace H : (F24.l0 k y0 l0 (l0.length : Int) 0) = some r := sqW hy0 H
 have Ny0 := sqa hy0
 clear hy0
 have H' := sqa H
 clear H
 go_enter func143, ntmps143
 go_wp2_with (first | ((with_reducible refine sqd 6 rfl ?_); refine Kd.R_lit Kd.string _ 9 ?hg (N := 6) ?hd (xs := ([] : List ByteArray)) (inner := []) (ok := fun _ => True) (okp := fun _ => True) ?hr ?hp (fun _ hk => hk) trivial (Below.refl _ _) (Nat.le_refl _) (by simp) ?_; (case hd => rfl); (case hg => rfl); (case hr => exact Z8); (case hp => exact Z23); intro v0 w2 ho3 hb hg_ hnew_; clear hg_ hnew_; (first | rw [← Ny0.out] at ho3 | (simp only [Int.reduceToNat] at ho3; rw [← Ny0.out] at ho3)); have O0 := sqL ho3 (sqB HB); replace HB := sqS (sqB HB) hb; clear hb ho3))
 go_loopg [3, 9] k (fun kq v3 v9 w' => ∃ (x3_1 : List ByteArray) (x9_1 : Int), v9 = .int .i64 x9_1 ∧ Aside0 (F24.l0 kq x3_1 l0 (l0.length : Int) x9_1 = some r) ∧ Aside0 (kq ≤ k) ∧ Aside0 (Kd.R Kd.string 9 w' w.heap.size (fun _ => True) v3 x3_1) ∧ Aside0 (Below w.heap.size w w'))
 case atStart => exact ⟨(y0), (0), Z2, H', ⟨Nat.le_refl _⟩, ⟨sqR O0⟩, ⟨sqB HB⟩⟩
 case round =>
  clear H'
  obtain ⟨x3_1, x9_1, rfl, HA, HK1, O1, HB⟩ := hrel
  cases gk with
  | zero => exact absurd HA.out (by simp [F24.l0])
  | succ k1 =>
   have H := HA.out
   clear HA
   simp only [F24.l0] at H
   by_cases c4 : x9_1 < (l0.length : Int)
   ·rw [if_pos c4] at H
    have c4b0 : decide (x9_1 < (l0.length : Int)) = true := decide_eq_true c4
    clear c4
    obtain ⟨c5, H⟩ := sqI H
    have c5b0 : decide (0 ≤ x9_1) = true := decide_eq_true c5
    clear c5
    obtain ⟨c6, H⟩ := sqI H
    have c6b0 : decide (x9_1 < (l0.length : Int)) = true := decide_eq_true c6
    clear c6
    obtain ⟨t0, A7, H⟩ := sqD H
    obtain ⟨c8, H⟩ := sqI H
    have LMc8 := sqa c8
    clear c8
    obtain ⟨y1, hy1⟩ : ∃ y_ : List ByteArray, y_ = (x3_1 ++ [t0]) := ⟨_, rfl⟩
    replace H : (F24.l0 k1 y1 l0 (l0.length : Int) (wrap64 (x9_1 + 1))) = some r := sqW hy1 H
    have Ny1 := sqa hy1
    clear hy1
    have H' := sqa H
    clear H
    have p0 : 0 ≤ (x9_1 : Int) := of_decide_eq_true Z7
    have q0 : x9_1 < (l0.length : Int) := of_decide_eq_true Z7
    obtain ⟨ad0, e0, hx0⟩ := Kd.at_int HR0.1 x9_1 p0 q0
    cases e0
    replace hx0 := (HB.1.cell (World.block_lt_of_cell? w _ hx0)).trans hx0
    replace p0 := eq_true p0
    replace q0 := eq_true q0
    go_wp2_with (first | ((with_reducible refine sqc 144 rfl ?_); refine sqC (some 15) func144 #[.int .i64 (rd l0 x9_1)] ?_; (with_reducible refine (strconv_Itoa.calls (rd l0 x9_1) t0 _ ?sideG A7.1).mono ?_); (case sideG => exact Z93); refine sqV fun w9 hb => ?_; replace O1 := sqU O1 hb; replace HB := sqS (sqB HB) hb) | ((with_reducible refine gate_builtin (b := .append) (xs := #[.tmp 13, .tmp 16]) rfl ?_); at_builtin; refine Kd.R_append Kd.string (w0 := w) w.heap.size rfl (.tmp 13) (.tmp 16) 73 9 (.string ⟨#[]⟩) 16 rfl underlying73 info9 rfl (by decide) (by omega) u3 x3_1 t0 [.string t0] (fun _ => True) (fun _ => False) rfl rfl ?aP (fun _ hk => hk.elim) ?aF ?aO ?aB ?aS ?aL ?_; (case aP => exact rfl); (case aB => exact (sqB HB)); (case aF => exact Z24); (case aO => exact (sqR O1)); (case aS => exact (below_size (sqB HB))); (case aL => exact Z15 LMc8); intro v1 w1 ho hb hg hat; rw [← Ny1.out] at ho; replace HB := sqa (hb); have O2 := sqa (ho); clear O1; clear ho hb hg hat))
    go_roundg k1
    case measure => have := HK1.out; omega
    case rel => exact ⟨(y1), (wrap64 (x9_1 + 1)), Z2, H', ⟨Z15 HK1⟩, ⟨sqR O2⟩, ⟨sqB HB⟩⟩
   rw [if_neg c4] at H
   have c4b0 : decide (x9_1 < (l0.length : Int)) = false := decide_eq_false c4
   clear c4
   obtain ⟨t1, A1, H⟩ := sqD H
   obtain rfl := sqo H
   obtain ⟨Ao0, co0, eo0⟩ := Kd.R_slice O1.1
   subst eo0
   go_wp2_with (first | ((with_reducible refine sqc 166 rfl ?_); refine sqC (some 20) func166 #[.slice Ao0 x3_1.length co0, .string (⟨#[44]⟩ : ByteArray)] ?_; (with_reducible refine (strings_Join.calls _ _ x3_1 (⟨#[44]⟩ : ByteArray) t1 _ ?side1 ?side2 A1.1).mono ?_); (case side1 => exact Z47 O1); (case side2 => exact spot_of O1.1); refine sqV fun w3 hb => ?_; replace O1 := sqU O1 hb; replace HB := sqS (sqB HB) hb))
   go_ret
   exact ⟨Z14, sqB HB⟩

def F27.l0 : Nat → List Int → Int → Int → Option (List Int)
 | 0, _, _, _ => none
 | k + 1, x3, x4, x5 => if x5 > 0 then (if x5 = 0 then (none) else (if x3.length < 17592186044416 then (F27.l0 k (x3 ++ [wrap64 (Int.tdiv x4 x5)]) x5 (Int.tmod x4 x5)) else (none))) else (some x3)
def F27.f (k : Nat) (a0_0 : Int) (a0_1 : Int) : Option (List Int) := F27.l0 k (([] : List Int)) (mx a0_0 (wrap64 (-a0_0))) a0_1
abbrev F27.M (k : Nat) : Prop := (∀ y0 y1 y2, LeO (F27.l0 k y0 y1 y2) (F27.l0 (k + 1) y0 y1 y2))
theorem F27.mt : ∀ k, F27.M k → F27.M (k + 1) ∧ ∀ a0 a1, LeO (F27.f k a0 a1) (F27.f (k + 1) a0 a1) := by
  rintro k ih0
  refine ⟨?_, ?_⟩ <;> (try unfold F27.M) <;> intros <;> (first | unfold F27.l0 | unfold F27.f) <;> repeat' (with_reducible first | exact ih0 _ _ _ | exact LeO.refl _ | exact LeO.none _ | refine LeO.ite ?_ ?_ | refine LeO.bind ?_ fun _ => ?_)
theorem F27.ml : ∀ k, F27.M k
 | 0 => fun _ _ _ r h => by simp [F27.l0] at h
 | k + 1 => (F27.mt k (F27.ml k)).1
theorem F27.m a0 a1 k : LeO (F27.f k a0 a1) (F27.f (k + 1) a0 a1) := (F27.mt k (F27.ml k)).2 a0 a1
theorem F27.c (k : Nat) (a0_0 : Int) (a0_1 : Int) (r : List Int) (w : World) (H : F27.f k a0_0 a0_1 = some r) :
  Calls prog 168 #[.agg #[.int .i64 a0_0, .int .i64 a0_1]] w fun e w' => ∃ v0_ : Value, e = .returned (v0_) ∧ Kd.R (Kd.int .i64) 3 w' w.heap.size (fun _ => True) v0_ r ∧ Below w.heap.size w w' := by
 have hu31 := underlying31
 have HB := sqh w
 unfold F27.f at H
 obtain ⟨y0, hy0⟩ : ∃ y_ : List Int, y_ = (([] : List Int)) := ⟨_, rfl⟩
 replace H : (F27.l0 k y0 (mx a0_0 (wrap64 (-a0_0))) a0_1) = some r := sqW hy0 H
 have Ny0 := sqa hy0
 clear hy0
 obtain ⟨ji2, hji2⟩ : ∃ j_ : Int, (mx a0_0 (wrap64 (-a0_0))) = j_ := ⟨_, rfl⟩
 replace H : (F27.l0 k y0 ji2 a0_1) = some r := by first | (rw [hji2] at H; exact H) | (simp only [hji2] at H ⊢; exact H)
 have hji2_ : (if a0_0 < (wrap64 (-a0_0)) then (wrap64 (-a0_0)) else a0_0) = ji2 := hji2
 have H' := sqa H
 clear H
 go_enter func168, ntmps168
 go_wp2_with (first | ((with_reducible refine sqd 1 rfl ?_); refine sqBx w (sqB HB) (cs := #[.int .i64 a0_0, .int .i64 a0_1]) (t := 31) ?_; intro g0 hg w3 B0 E0 HB hb; clear hb hg) | ((with_reducible refine sqd 6 rfl ?_); refine Kd.R_lit (Kd.int .i64) _ 3 ?hg (N := 6) ?hd (xs := ([] : List Int)) (inner := []) (ok := fun _ => True) (okp := fun _ => True) ?hr ?hp (fun _ hk => hk) trivial (Below.refl _ _) (Nat.le_refl _) (by simp) ?_; (case hd => rfl); (case hg => rfl); (case hr => exact Z8); (case hp => exact Z23); intro v0 w4 ho5 hb hg_ hnew_; clear hg_ hnew_; (first | rw [← Ny0.out] at ho5 | (simp only [Int.reduceToNat] at ho5; rw [← Ny0.out] at ho5)); have O0 := sqL ho5 (sqB1 HB E0); replace B0 := sqT B0 hb; replace HB := sqS (sqB1 HB E0) hb; clear hb ho5; have := sqY2 B0))
 repeat (go_quiet (first | ((with_reducible refine sqd 1 rfl ?_); refine sqBx w (sqB HB) (cs := #[.int .i64 a0_0, .int .i64 a0_1]) (t := 31) ?_; intro g0 hg w3 B0 E0 HB hb; clear hb hg) | ((with_reducible refine sqd 6 rfl ?_); refine Kd.R_lit (Kd.int .i64) _ 3 ?hg (N := 6) ?hd (xs := ([] : List Int)) (inner := []) (ok := fun _ => True) (okp := fun _ => True) ?hr ?hp (fun _ hk => hk) trivial (Below.refl _ _) (Nat.le_refl _) (by simp) ?_; (case hd => rfl); (case hg => rfl); (case hr => exact Z8); (case hp => exact Z23); intro v0 w4 ho5 hb hg_ hnew_; clear hg_ hnew_; (first | rw [← Ny0.out] at ho5 | (simp only [Int.reduceToNat] at ho5; rw [← Ny0.out] at ho5)); have O0 := sqL ho5 (sqB1 HB E0); replace B0 := sqT B0 hb; replace HB := sqS (sqB1 HB E0) hb; clear hb ho5; have := sqY2 B0)); try go_wp2_with (first | ((with_reducible refine sqd 1 rfl ?_); refine sqBx w (sqB HB) (cs := #[.int .i64 a0_0, .int .i64 a0_1]) (t := 31) ?_; intro g0 hg w3 B0 E0 HB hb; clear hb hg) | ((with_reducible refine sqd 6 rfl ?_); refine Kd.R_lit (Kd.int .i64) _ 3 ?hg (N := 6) ?hd (xs := ([] : List Int)) (inner := []) (ok := fun _ => True) (okp := fun _ => True) ?hr ?hp (fun _ hk => hk) trivial (Below.refl _ _) (Nat.le_refl _) (by simp) ?_; (case hd => rfl); (case hg => rfl); (case hr => exact Z8); (case hp => exact Z23); intro v0 w4 ho5 hb hg_ hnew_; clear hg_ hnew_; (first | rw [← Ny0.out] at ho5 | (simp only [Int.reduceToNat] at ho5; rw [← Ny0.out] at ho5)); have O0 := sqL ho5 (sqB1 HB E0); replace B0 := sqT B0 hb; replace HB := sqS (sqB1 HB E0) hb; clear hb ho5; have := sqY2 B0)))
 go_loopg [3, 4, 5] k (fun kq v3 v4 v5 w' => ∃ (x3_1 : List Int) (x4_1 : Int) (x5_1 : Int), v4 = .int .i64 x4_1 ∧ v5 = .int .i64 x5_1 ∧ Aside0 (F27.l0 kq x3_1 x4_1 x5_1 = some r) ∧ Aside0 (kq ≤ k) ∧ Aside0 (Kd.R (Kd.int .i64) 3 w' w.heap.size (fun _ => True) v3 x3_1) ∧ Aside0 (w'.heap[g0]? = some (.cells #[.int .i64 a0_0, .int .i64 a0_1] 31 (0, 0))) ∧ Aside0 (Below w.heap.size w w'))
 case atStart => exact ⟨(y0), (ji2), (a0_1), (by first | rfl | (simp; done) | (simp only [← hji2] <;> (first | rfl | simp)) | (simp [*]; done)), Z2, H', ⟨Nat.le_refl _⟩, ⟨sqR O0⟩, ⟨sqK B0⟩, ⟨sqB1 HB E0⟩⟩
 case round =>
  clear H'
  obtain ⟨x3_1, x4_1, x5_1, rfl, rfl, HA, HK1, O1, B0, HB⟩ := hrel
  cases gk with
  | zero => exact absurd HA.out (by simp [F27.l0])
  | succ k1 =>
   have H := HA.out
   clear HA
   simp only [F27.l0] at H
   by_cases c7 : x5_1 > 0
   ·rw [if_pos c7] at H
    have c7b0 : decide (0 < x5_1) = true := decide_eq_true c7
    clear c7
    by_cases c8 : x5_1 = 0
    ·rw [if_pos c8] at H
     exact absurd H (by simp)
    rw [if_neg c8] at H
    have c8b0 : (x5_1 == 0) = false := sqe0 c8
    have c8b1 : (x5_1 != 0) = true := sqn1 c8
    obtain ⟨c9, H⟩ := sqI H
    have LMc9 := sqa c9
    clear c9
    obtain ⟨y1, hy1⟩ : ∃ y_ : List Int, y_ = (x3_1 ++ [wrap64 (Int.tdiv x4_1 x5_1)]) := ⟨_, rfl⟩
    replace H : (F27.l0 k1 y1 x5_1 (Int.tmod x4_1 x5_1)) = some r := sqW hy1 H
    have Ny1 := sqa hy1
    clear hy1
    have H' := sqa H
    clear H
    go_wp2_with (first | ((with_reducible refine gate_builtin (b := .append) (xs := #[.tmp 17, .tmp 21]) rfl ?_); at_builtin; refine Kd.R_append (Kd.int .i64) (w0 := w) w.heap.size rfl (.tmp 17) (.tmp 21) 109 3 (.int .i64 0) 8 rfl underlying109 info3 rfl (by decide) (by omega) u3 x3_1 (wrap64 (Int.tdiv x4_1 x5_1)) [.int .i64 (wrap64 (Int.tdiv x4_1 x5_1))] (fun _ => True) (fun _ => False) rfl rfl ?aP (fun _ hk => hk.elim) ?aF ?aO ?aB ?aS ?aL ?_; (case aP => exact rfl); (case aB => exact (sqB1 HB E0)); (case aF => exact Z24); (case aO => exact (sqR O1)); (case aS => exact (below_size (sqB1 HB E0))); (case aL => exact Z15 LMc9); intro v1 w1 ho hb hg hat; rw [← Ny1.out] at ho; replace B0 := sqa (blk_grown (sqK B0) hg (Kd.R_ne O1.1 B0.1 (by decide))); replace HB := sqa (hb); have O2 := sqa (ho); clear O1; clear ho hb hg hat))
    repeat (go_quiet (first | ((with_reducible refine gate_builtin (b := .append) (xs := #[.tmp 17, .tmp 21]) rfl ?_); at_builtin; refine Kd.R_append (Kd.int .i64) (w0 := w) w.heap.size rfl (.tmp 17) (.tmp 21) 109 3 (.int .i64 0) 8 rfl underlying109 info3 rfl (by decide) (by omega) u3 x3_1 (wrap64 (Int.tdiv x4_1 x5_1)) [.int .i64 (wrap64 (Int.tdiv x4_1 x5_1))] (fun _ => True) (fun _ => False) rfl rfl ?aP (fun _ hk => hk.elim) ?aF ?aO ?aB ?aS ?aL ?_; (case aP => exact rfl); (case aB => exact (sqB1 HB E0)); (case aF => exact Z24); (case aO => exact (sqR O1)); (case aS => exact (below_size (sqB1 HB E0))); (case aL => exact Z15 LMc9); intro v1 w1 ho hb hg hat; rw [← Ny1.out] at ho; replace B0 := sqa (blk_grown (sqK B0) hg (Kd.R_ne O1.1 B0.1 (by decide))); replace HB := sqa (hb); have O2 := sqa (ho); clear O1; clear ho hb hg hat)); try go_wp2_with (first | ((with_reducible refine gate_builtin (b := .append) (xs := #[.tmp 17, .tmp 21]) rfl ?_); at_builtin; refine Kd.R_append (Kd.int .i64) (w0 := w) w.heap.size rfl (.tmp 17) (.tmp 21) 109 3 (.int .i64 0) 8 rfl underlying109 info3 rfl (by decide) (by omega) u3 x3_1 (wrap64 (Int.tdiv x4_1 x5_1)) [.int .i64 (wrap64 (Int.tdiv x4_1 x5_1))] (fun _ => True) (fun _ => False) rfl rfl ?aP (fun _ hk => hk.elim) ?aF ?aO ?aB ?aS ?aL ?_; (case aP => exact rfl); (case aB => exact (sqB1 HB E0)); (case aF => exact Z24); (case aO => exact (sqR O1)); (case aS => exact (below_size (sqB1 HB E0))); (case aL => exact Z15 LMc9); intro v1 w1 ho hb hg hat; rw [← Ny1.out] at ho; replace B0 := sqa (blk_grown (sqK B0) hg (Kd.R_ne O1.1 B0.1 (by decide))); replace HB := sqa (hb); have O2 := sqa (ho); clear O1; clear ho hb hg hat)))
    go_roundg k1
    case measure => have := HK1.out; omega
    case rel => exact ⟨(y1), (x5_1), (Int.tmod x4_1 x5_1), Z2, Z2, H', ⟨Z15 HK1⟩, ⟨sqR O2⟩, ⟨sqK B0⟩, ⟨sqB1 HB E0⟩⟩
   rw [if_neg c7] at H
   have c7b0 : decide (0 < x5_1) = false := decide_eq_false c7
   clear c7
   obtain rfl := sqo H
   go_wp2
   repeat (go_quiet (fail); try go_wp2)
   go_ret
   exact ⟨_, by first | rfl | (simp [errP_none, errP_some] <;> rfl) | (simp only [← hji2]; first | rfl | (simp [errP_none, errP_some] <;> rfl)) | (simp [*, errP_none, errP_some] <;> rfl), Z25 O1, sqB1 HB E0⟩

def F39.l0 : Nat → Int → List Int → Int → Int → Option (Int)
 | 0, _, _, _, _ => none
 | k + 1, x3, x0, x1, x2 => if x2 < x1 then (if 0 ≤ x2 then (if x2 < (x0.length : Int) then (F39.l0 k (wrap64 (x3 + (rd x0 x2))) x0 x1 (wrap64 (x2 + 1))) else (none)) else (none)) else (some x3)
def F39.f (k : Nat) (a0_0 : Int) (a0_1 : Int) : Option (Int) := (F2.f k a0_0 a0_1).bind fun t0 => (if t0 = true then ((F27.f k a0_0 a0_1).bind fun t1 => (F39.l0 k 0 t1 (t1.length : Int) 0)) else (some (-1)))
abbrev F39.M (k : Nat) : Prop := (∀ y0 y1 y2 y3, LeO (F39.l0 k y0 y1 y2 y3) (F39.l0 (k + 1) y0 y1 y2 y3))
theorem F39.mt : ∀ k, F39.M k → F39.M (k + 1) ∧ ∀ a0 a1, LeO (F39.f k a0 a1) (F39.f (k + 1) a0 a1) := by
  rintro k ih0
  refine ⟨?_, ?_⟩ <;> (try unfold F39.M) <;> intros <;> (first | unfold F39.l0 | unfold F39.f) <;> repeat' (with_reducible first | exact ih0 _ _ _ _ | exact F2.m _ _ _ | exact F27.m _ _ _ | exact LeO.refl _ | exact LeO.none _ | refine LeO.ite ?_ ?_ | refine LeO.bind ?_ fun _ => ?_)
theorem F39.ml : ∀ k, F39.M k
 | 0 => fun _ _ _ _ r h => by simp [F39.l0] at h
 | k + 1 => (F39.mt k (F39.ml k)).1
theorem F39.m a0 a1 k : LeO (F39.f k a0 a1) (F39.f (k + 1) a0 a1) := (F39.mt k (F39.ml k)).2 a0 a1
theorem F39.c (k : Nat) (a0_0 : Int) (a0_1 : Int) (r : Int) (w : World) (H : F39.f k a0_0 a0_1 = some r) :
  Calls prog 145 #[.agg #[.int .i64 a0_0, .int .i64 a0_1]] w fun e w' => e = .returned (.int .i64 r) ∧ Below w.heap.size w w' := by
 have hu31 := underlying31
 have HB := sqh w
 unfold F39.f at H
 obtain ⟨t0, A2, H⟩ := sqD H
 by_cases c3 : t0 = true
 ·subst c3
  rw [if_pos rfl] at H
  obtain ⟨t1, A4, H⟩ := sqD H
  have H' := sqa H
  clear H
  go_enter func145, ntmps145
  go_wp2_with (first | ((with_reducible refine sqd 1 rfl ?_); refine sqBx w (sqB HB) (cs := #[.int .i64 a0_0, .int .i64 a0_1]) (t := 31) ?_; intro g0 hg w5 B0 E0 HB hb; clear hb hg; have := sqY2 B0) | ((with_reducible refine sqc 70 rfl ?_); refine sqC (some 7) func70 #[.agg #[.int .i64 a0_0, .int .i64 a0_1]] ?_; (with_reducible refine (F2.c k a0_0 a0_1 true _ A2.1).mono ?_); refine sqV fun w7 hb => ?_; replace B0 := sqT B0 hb; replace HB := sqS (sqB1 HB E0) hb; have := sqY2 B0) | ((with_reducible refine sqc 168 rfl ?_); refine sqC (some 10) func168 #[.agg #[.int .i64 a0_0, .int .i64 a0_1]] ?_; (with_reducible refine (F27.c k a0_0 a0_1 t1 _ A4.1).mono ?_); rintro e w9 ⟨v0, rfl, ho0, hb⟩; refine ⟨_, rfl, ?_⟩; have O0 := sqL ho0 (sqB1 HB E0); replace B0 := sqT B0 hb; replace HB := sqS (sqB1 HB E0) hb; (try clear ho0); obtain ⟨Ao0, co0, eo0⟩ := Kd.R_slice O0.1; subst eo0))
  go_loopg [3, 12] k (fun kq v3 v1 w' => ∃ (x3_1 : Int) (x0 : Int), v3 = .int .i64 x3_1 ∧ v1 = .int .i64 x0 ∧ Aside0 (F39.l0 kq x3_1 t1 (t1.length : Int) x0 = some r) ∧ Aside0 (kq ≤ k) ∧ Aside0 (Kd.R (Kd.int .i64) 3 w' w.heap.size (fun _ => True) (.slice Ao0 t1.length co0) t1) ∧ Aside0 (w'.heap[g0]? = some (.cells #[.int .i64 a0_0, .int .i64 a0_1] 31 (0, 0))) ∧ Aside0 (Below w.heap.size w w'))
  case atStart => exact ⟨(0), (0), Z2, Z2, H', ⟨Nat.le_refl _⟩, ⟨sqR O0⟩, ⟨sqK B0⟩, ⟨sqB1 HB E0⟩⟩
  case round =>
   clear H'
   obtain ⟨x3_1, x0, rfl, rfl, HA, HK1, O1, B0, HB⟩ := hrel
   cases gk with
   | zero => exact absurd HA.out (by simp [F39.l0])
   | succ k1 =>
    have H := HA.out
    clear HA
    simp only [F39.l0] at H
    by_cases c0 : x0 < (t1.length : Int)
    ·rw [if_pos c0] at H
     have c1 : decide (x0 < (t1.length : Int)) = true := decide_eq_true c0
     clear c0
     obtain ⟨c2, H⟩ := sqI H
     have c4 : decide (0 ≤ x0) = true := decide_eq_true c2
     clear c2
     obtain ⟨c5, H⟩ := sqI H
     have c6 : decide (x0 < (t1.length : Int)) = true := decide_eq_true c5
     clear c5
     have H' := sqa H
     clear H
     have p0 : 0 ≤ (x0 : Int) := of_decide_eq_true Z7
     have q0 : x0 < (t1.length : Int) := of_decide_eq_true Z7
     obtain ⟨ad0, e0, hx0⟩ := Kd.at_int (Kd.R_reads' O1.1).2.2 x0 p0 q0
     cases e0
     replace p0 := eq_true p0
     replace q0 := eq_true q0
     go_wp2
     go_roundg k1
     case measure => have := HK1.out; omega
     case rel => exact ⟨(wrap64 (x3_1 + (rd t1 x0))), (wrap64 (x0 + 1)), Z2, Z2, H', ⟨Z15 HK1⟩, ⟨sqR O1⟩, ⟨sqK B0⟩, ⟨sqB1 HB E0⟩⟩
    rw [if_neg c0] at H
    have c1 : decide (x0 < (t1.length : Int)) = false := decide_eq_false c0
    clear c0
    obtain rfl := sqo H
    go_wp2
    go_ret
    exact ⟨Z14, sqB1 HB E0⟩
 obtain rfl := sqb c3
 rw [if_neg sqF] at H
 obtain rfl := sqo H
 go_enter func145, ntmps145
 go_wp2_with (first | ((with_reducible refine sqd 1 rfl ?_); refine sqBx w (sqB HB) (cs := #[.int .i64 a0_0, .int .i64 a0_1]) (t := 31) ?_; intro g0 hg w0 B0 E0 HB hb; clear hb hg; have := sqY2 B0) | ((with_reducible refine sqc 70 rfl ?_); refine sqC (some 7) func70 #[.agg #[.int .i64 a0_0, .int .i64 a0_1]] ?_; (with_reducible refine (F2.c k a0_0 a0_1 false _ A2.1).mono ?_); refine sqV fun w1 hb => ?_; replace B0 := sqT B0 hb; replace HB := sqS (sqB1 HB E0) hb))
 go_ret
 exact ⟨Z14, sqB1 HB E0⟩

def F79.f (a0_0 : Int) (a0_1 : Int) : Option (Int) := if (Int.tmod a0_0 2) = 0 then (some 0) else (if (Int.tmod a0_1 2) = 0 then (some 1) else (some 2))
theorem F79.c (a0_0 : Int) (a0_1 : Int) (r : Int) (w : World) (H : F79.f a0_0 a0_1 = some r) :
  Calls prog 169 #[.agg #[.int .i64 a0_0, .int .i64 a0_1]] w fun e w' => e = .returned (.int .i64 r) ∧ Below w.heap.size w w' := by
 have hu31 := underlying31
 have HB := sqh w
 unfold F79.f at H
 by_cases c2 : (Int.tmod a0_0 2) = 0
 ·rw [if_pos c2] at H
  have c2b0 : ((Int.tmod a0_0 2) == 0) = true := sqe1 c2
  have c2b1 : ((Int.tmod a0_0 2) != 0) = false := sqn0 c2
  clear c2
  obtain rfl := sqo H
  go_enter func169, ntmps169
  go_wp2_with (first | ((with_reducible refine sqd 1 rfl ?_); refine sqBx w (sqB HB) (cs := #[.int .i64 a0_0, .int .i64 a0_1]) (t := 31) ?_; intro g0 hg w3 B0 E0 HB hb; clear hb hg; have := sqY2 B0))
  go_ret
  exact ⟨Z14, sqB1 HB E0⟩
 rw [if_neg c2] at H
 have c2b0 : ((Int.tmod a0_0 2) == 0) = false := sqe0 c2
 have c2b1 : ((Int.tmod a0_0 2) != 0) = true := sqn1 c2
 by_cases c5 : (Int.tmod a0_1 2) = 0
 ·rw [if_pos c5] at H
  have c5b0 : ((Int.tmod a0_1 2) == 0) = true := sqe1 c5
  have c5b1 : ((Int.tmod a0_1 2) != 0) = false := sqn0 c5
  clear c5
  obtain rfl := sqo H
  go_enter func169, ntmps169
  go_wp2_with (first | ((with_reducible refine sqd 1 rfl ?_); refine sqBx w (sqB HB) (cs := #[.int .i64 a0_0, .int .i64 a0_1]) (t := 31) ?_; intro g0 hg w6 B0 E0 HB hb; clear hb hg; have := sqY2 B0))
  go_ret
  exact ⟨Z14, sqB1 HB E0⟩
 rw [if_neg c5] at H
 have c5b0 : ((Int.tmod a0_1 2) == 0) = false := sqe0 c5
 have c5b1 : ((Int.tmod a0_1 2) != 0) = true := sqn1 c5
 obtain rfl := sqo H
 go_enter func169, ntmps169
 go_wp2_with (first | ((with_reducible refine sqd 1 rfl ?_); refine sqBx w (sqB HB) (cs := #[.int .i64 a0_0, .int .i64 a0_1]) (t := 31) ?_; intro g0 hg w8 B0 E0 HB hb; clear hb hg; have := sqY2 B0))
 go_ret
 exact ⟨Z14, sqB1 HB E0⟩

def F71.f (k : Nat) (a0_0 : Int) (a0_1 : Int) : Option (List Int) := (F2.f k a0_0 a0_1).bind fun t0 => (if t0 = true then ((F79.f a0_0 a0_1).bind fun t1 => (if t1 = 0 then (some (([1, 0, 3, 2] : List Int))) else (if t1 = 1 then (some (([2, 3, 0, 1] : List Int))) else (some (([3, 2, 1, 0] : List Int)))))) else (some ([] : List Int)))
theorem F71.m : ∀ a0 a1 k, LeO (F71.f k a0 a1) (F71.f (k + 1) a0 a1) := by
 intro a0 a1 k
 unfold F71.f
 repeat' (with_reducible first | exact F2.m _ _ _ | exact LeO.refl _ | exact LeO.none _ | refine LeO.ite ?_ ?_ | refine LeO.bind ?_ fun _ => ?_)
theorem F71.c (k : Nat) (a0_0 : Int) (a0_1 : Int) (r : List Int) (w : World) (H : F71.f k a0_0 a0_1 = some r) :
  Calls prog 146 #[.agg #[.int .i64 a0_0, .int .i64 a0_1]] w fun e w' => ∃ v0_ : Value, e = .returned (v0_) ∧ Kd.R (Kd.int .i64) 3 w' w.heap.size (fun _ => True) v0_ r ∧ Below w.heap.size w w' := by
 have hu31 := underlying31
 have HB := sqh w
 unfold F71.f at H
 obtain ⟨t0, A2, H⟩ := sqD H
 by_cases c3 : t0 = true
 ·subst c3
  rw [if_pos rfl] at H
  obtain ⟨t1, A4, H⟩ := sqD H
  by_cases c5 : t1 = 0
  ·rw [if_pos c5] at H
   have c5b0 : (t1 == 0) = true := sqe1 c5
   have c5b1 : (t1 != 0) = false := sqn0 c5
   clear c5
   obtain ⟨y0, hy0⟩ : ∃ y_ : List Int, y_ = (([1, 0, 3, 2] : List Int)) := ⟨_, rfl⟩
   replace H : (some y0) = some r := sqW hy0 H
   have Ny0 := sqa hy0
   clear hy0
   obtain rfl := sqo H
   go_enter func146, ntmps146
   go_wp2_with (first | ((with_reducible refine sqd 1 rfl ?_); refine sqBx w (sqB HB) (cs := #[.int .i64 a0_0, .int .i64 a0_1]) (t := 31) ?_; intro g0 hg w6 B0 E0 HB hb; clear hb hg; have := sqY2 B0) | ((with_reducible refine sqc 70 rfl ?_); refine sqC (some 4) func70 #[.agg #[.int .i64 a0_0, .int .i64 a0_1]] ?_; (with_reducible refine (F2.c k a0_0 a0_1 true _ A2.1).mono ?_); refine sqV fun w8 hb => ?_; replace B0 := sqT B0 hb; replace HB := sqS (sqB1 HB E0) hb; have := sqY2 B0) | ((with_reducible refine sqc 169 rfl ?_); refine sqC (some 7) func169 #[.agg #[.int .i64 a0_0, .int .i64 a0_1]] ?_; (with_reducible refine (F79.c a0_0 a0_1 t1 _ A4.1).mono ?_); refine sqV fun w0 hb => ?_; replace B0 := sqT B0 hb; replace HB := sqS (sqB1 HB E0) hb) | ((with_reducible refine sqd 10 rfl ?_); refine Kd.R_lit (Kd.int .i64) _ 3 ?hg (N := 10) ?hd (xs := ([1, 0, 3, 2] : List Int)) (inner := [.int .i64 1, .int .i64 0, .int .i64 3, .int .i64 2]) (ok := fun _ => True) (okp := fun _ => True) ?hr ?hp (fun _ hk => hk) trivial (Below.refl _ _) (Nat.le_refl _) (by simp) ?_; (case hd => rfl); (case hg => rfl); (case hr => exact Z8); (case hp => exact (Reps.one (show Kd.M (Kd.int .i64) _ _ _ 1 [.int .i64 1] from rfl) (Reps.one (show Kd.M (Kd.int .i64) _ _ _ 0 [.int .i64 0] from rfl) (Reps.one (show Kd.M (Kd.int .i64) _ _ _ 3 [.int .i64 3] from rfl) (Reps.one (show Kd.M (Kd.int .i64) _ _ _ 2 [.int .i64 2] from rfl) (Reps.none _ _)))))); intro v0 w1 ho0 hb hg_ hnew_; clear hg_ hnew_; (first | rw [← Ny0.out] at ho0 | (simp only [Int.reduceToNat] at ho0; rw [← Ny0.out] at ho0)); have O0 := sqL ho0 (sqB1 HB E0); replace B0 := sqT B0 hb; replace HB := sqS (sqB1 HB E0) hb; clear hb ho0))
   go_ret
   exact ⟨_, Z14, Z25 O0, sqB1 HB E0⟩
  rw [if_neg c5] at H
  have c5b0 : (t1 == 0) = false := sqe0 c5
  have c5b1 : (t1 != 0) = true := sqn1 c5
  by_cases c0 : t1 = 1
  ·rw [if_pos c0] at H
   have c1 := sqe1 c0
   have c2 := sqn0 c0
   clear c0
   obtain ⟨y1, hy1⟩ : ∃ y_ : List Int, y_ = (([2, 3, 0, 1] : List Int)) := ⟨_, rfl⟩
   replace H : (some y1) = some r := sqW hy1 H
   have Ny1 := sqa hy1
   clear hy1
   obtain rfl := sqo H
   go_enter func146, ntmps146
   go_wp2_with (first | ((with_reducible refine sqd 1 rfl ?_); refine sqBx w (sqB HB) (cs := #[.int .i64 a0_0, .int .i64 a0_1]) (t := 31) ?_; intro g0 hg w2 B0 E0 HB hb; clear hb hg; have := sqY2 B0) | ((with_reducible refine sqc 70 rfl ?_); refine sqC (some 4) func70 #[.agg #[.int .i64 a0_0, .int .i64 a0_1]] ?_; (with_reducible refine (F2.c k a0_0 a0_1 true _ A2.1).mono ?_); refine sqV fun w3 hb => ?_; replace B0 := sqT B0 hb; replace HB := sqS (sqB1 HB E0) hb; have := sqY2 B0) | ((with_reducible refine sqc 169 rfl ?_); refine sqC (some 7) func169 #[.agg #[.int .i64 a0_0, .int .i64 a0_1]] ?_; (with_reducible refine (F79.c a0_0 a0_1 t1 _ A4.1).mono ?_); refine sqV fun w4 hb => ?_; replace B0 := sqT B0 hb; replace HB := sqS (sqB1 HB E0) hb) | ((with_reducible refine sqd 13 rfl ?_); refine Kd.R_lit (Kd.int .i64) _ 3 ?hg (N := 13) ?hd (xs := ([2, 3, 0, 1] : List Int)) (inner := [.int .i64 2, .int .i64 3, .int .i64 0, .int .i64 1]) (ok := fun _ => True) (okp := fun _ => True) ?hr ?hp (fun _ hk => hk) trivial (Below.refl _ _) (Nat.le_refl _) (by simp) ?_; (case hd => rfl); (case hg => rfl); (case hr => exact Z8); (case hp => exact (Reps.one (show Kd.M (Kd.int .i64) _ _ _ 2 [.int .i64 2] from rfl) (Reps.one (show Kd.M (Kd.int .i64) _ _ _ 3 [.int .i64 3] from rfl) (Reps.one (show Kd.M (Kd.int .i64) _ _ _ 0 [.int .i64 0] from rfl) (Reps.one (show Kd.M (Kd.int .i64) _ _ _ 1 [.int .i64 1] from rfl) (Reps.none _ _)))))); intro v1 w5 ho1 hb hg_ hnew_; clear hg_ hnew_; (first | rw [← Ny1.out] at ho1 | (simp only [Int.reduceToNat] at ho1; rw [← Ny1.out] at ho1)); have O1 := sqL ho1 (sqB1 HB E0); replace B0 := sqT B0 hb; replace HB := sqS (sqB1 HB E0) hb; clear hb ho1))
   go_ret
   exact ⟨_, Z14, Z25 O1, sqB1 HB E0⟩
  rw [if_neg c0] at H
  have c1 := sqe0 c0
  have c2 := sqn1 c0
  obtain ⟨y2, hy2⟩ : ∃ y_ : List Int, y_ = (([3, 2, 1, 0] : List Int)) := ⟨_, rfl⟩
  replace H : (some y2) = some r := sqW hy2 H
  have Ny2 := sqa hy2
  clear hy2
  obtain rfl := sqo H
  go_enter func146, ntmps146
  go_wp2_with (first | ((with_reducible refine sqd 1 rfl ?_); refine sqBx w (sqB HB) (cs := #[.int .i64 a0_0, .int .i64 a0_1]) (t := 31) ?_; intro g0 hg w7 B0 E0 HB hb; clear hb hg; have := sqY2 B0) | ((with_reducible refine sqc 70 rfl ?_); refine sqC (some 4) func70 #[.agg #[.int .i64 a0_0, .int .i64 a0_1]] ?_; (with_reducible refine (F2.c k a0_0 a0_1 true _ A2.1).mono ?_); refine sqV fun w9 hb => ?_; replace B0 := sqT B0 hb; replace HB := sqS (sqB1 HB E0) hb; have := sqY2 B0) | ((with_reducible refine sqc 169 rfl ?_); refine sqC (some 7) func169 #[.agg #[.int .i64 a0_0, .int .i64 a0_1]] ?_; (with_reducible refine (F79.c a0_0 a0_1 t1 _ A4.1).mono ?_); refine sqV fun w25 hb => ?_; replace B0 := sqT B0 hb; replace HB := sqS (sqB1 HB E0) hb) | ((with_reducible refine sqd 14 rfl ?_); refine Kd.R_lit (Kd.int .i64) _ 3 ?hg (N := 14) ?hd (xs := ([3, 2, 1, 0] : List Int)) (inner := [.int .i64 3, .int .i64 2, .int .i64 1, .int .i64 0]) (ok := fun _ => True) (okp := fun _ => True) ?hr ?hp (fun _ hk => hk) trivial (Below.refl _ _) (Nat.le_refl _) (by simp) ?_; (case hd => rfl); (case hg => rfl); (case hr => exact Z8); (case hp => exact (Reps.one (show Kd.M (Kd.int .i64) _ _ _ 3 [.int .i64 3] from rfl) (Reps.one (show Kd.M (Kd.int .i64) _ _ _ 2 [.int .i64 2] from rfl) (Reps.one (show Kd.M (Kd.int .i64) _ _ _ 1 [.int .i64 1] from rfl) (Reps.one (show Kd.M (Kd.int .i64) _ _ _ 0 [.int .i64 0] from rfl) (Reps.none _ _)))))); intro v2 w26 ho2 hb hg_ hnew_; clear hg_ hnew_; (first | rw [← Ny2.out] at ho2 | (simp only [Int.reduceToNat] at ho2; rw [← Ny2.out] at ho2)); have O2 := sqL ho2 (sqB1 HB E0); replace B0 := sqT B0 hb; replace HB := sqS (sqB1 HB E0) hb; clear hb ho2))
  go_ret
  exact ⟨_, Z14, Z25 O2, sqB1 HB E0⟩
 obtain rfl := sqb c3
 rw [if_neg sqF] at H
 obtain rfl := sqo H
 go_enter func146, ntmps146
 go_wp2_with (first | ((with_reducible refine sqd 1 rfl ?_); refine sqBx w (sqB HB) (cs := #[.int .i64 a0_0, .int .i64 a0_1]) (t := 31) ?_; intro g0 hg w28 B0 E0 HB hb; clear hb hg; have := sqY2 B0) | ((with_reducible refine sqc 70 rfl ?_); refine sqC (some 4) func70 #[.agg #[.int .i64 a0_0, .int .i64 a0_1]] ?_; (with_reducible refine (F2.c k a0_0 a0_1 false _ A2.1).mono ?_); refine sqV fun w30 hb => ?_; replace B0 := sqT B0 hb; replace HB := sqS (sqB1 HB E0) hb))
 go_ret
 exact ⟨_, Z14, Z19, sqB1 HB E0⟩
end Go.Proofs.YtofmlbgfcohhoaaGreatDoor.PFnReadJournal
