import Derived.Test.YtofmlbgfcohhoaaGreatDoorPFnReadJournalx4
set_option maxHeartbeats 8000000
set_option maxRecDepth 100000
namespace Go.Proofs.YtofmlbgfcohhoaaGreatDoor.PFnReadJournal
open Go.RowKit Go.Proofs.YtofmlbgfcohhoaaGreatDoorW.PrintWords Go.Proofs.YtofmlbgfcohhoaaGreatDoorW.PrintLast Go.Proofs.YtofmlbgfcohhoaaGreatDoorW.PrintMore Go.Proofs.YtofmlbgfcohhoaaGreatDoor.Lib Go.Proofs.Tryz
attribute [local go_sem] max2_int min2_int max_two min_two max_three min_three max_four min_four
set_option linter.unusedVariables false
set_option linter.unusedSimpArgs false

mutual
def F10.j0 : Nat → Int → Bool → Option (ByteArray)
 | 0, _, _ => none
 | k + 1, x0, x1 => if x1 = true then (some (⟨#[45, 57, 50, 50, 51, 51, 55, 50, 48, 51, 54, 56, 53, 52, 55, 55, 53, 56, 48, 56]⟩ : ByteArray)) else (if x0 < 0 then ((F10.f k (wrap64 (-x0))).bind fun t0 => (if 1 + t0.size ≤ 9223372036854775807 then (some ((⟨#[45]⟩ : ByteArray) ++ t0)) else (none))) else (if x0 < 10 then (some (strOfNums (([(wrap64 (48 + x0)) % 256] : List Int)))) else ((F10.f k (wrap64 (Int.tdiv x0 10))).bind fun t1 => ((some (([(wrap64 (48 + (Int.tmod x0 10))) % 256] : List Int) : List Int)).bind fun y0 => (if t1.size + (strOfNums y0).size ≤ 9223372036854775807 then (some (t1 ++ (strOfNums y0))) else (none))))))
def F10.f : Nat → Int → Option (ByteArray)
 | 0, _ => none
 | k + 1, a0 => if a0 < 0 then (F10.j0 k a0 (a0 == (wrap64 (-a0)))) else (F10.j0 k a0 false)
end
theorem F10.ml : ∀ k, (∀ y0, LeO (F10.f k y0) (F10.f (k + 1) y0)) ∧ (∀ y0 y1, LeO (F10.j0 k y0 y1) (F10.j0 (k + 1) y0 y1))
 | 0 => ⟨fun _ r h => by simp [F10.f] at h, fun _ _ r h => by simp [F10.j0] at h⟩
 | k + 1 => by
  obtain ⟨ih0, ih1⟩ := F10.ml k
  refine ⟨?_, ?_⟩ <;> intros <;> (first | unfold F10.f | unfold F10.j0) <;> repeat' (with_reducible first | exact ih0 _ | exact ih1 _ _ | exact LeO.refl _ | exact LeO.none _ | refine LeO.ite ?_ ?_ | refine LeO.bind ?_ fun _ => ?_)
theorem F10.m : ∀ a0 k, LeO (F10.f k a0) (F10.f (k + 1) a0) := by
 intro a0 k
 obtain ⟨ih0, ih1⟩ := F10.ml k
 exact ih0 a0
def F10.T7 : Bool × List (List Nat × List Nat) := (true, [([], []), ([0], [0]), ([1], [1]), ([], []), ([3], [3]), ([4], [4]), ([5], [5]), ([6], [6]), ([7], [7]), ([2, 8], [2, 8]), ([9, 2, 0, 1, 2, 3, 4, 5, 6, 7, 8, 9], [9])])
def F10.B7 : List Nat := [0, 1, 3, 0, 8, 24, 56, 120, 248, 511, 1023]
theorem F10.tab7 : rtab .any (opsOf f93 7) = F10.T7 := by kernel_rfl
theorem F10.bits7 : waitsOk F10.T7.2 F10.B7 = true := by kernel_rfl
theorem F10.c (k : Nat) : ∀ (a0 : Int) (r : ByteArray) (w : World) (h : F10.f k a0 = some r),
  Calls prog 93 #[.int .i64 a0] w fun e w' => e = .returned (.string r) ∧ Below w.heap.size w w' := by
 induction k using Nat.strongRecOn with
 | _ k ih =>
 intro a0 r w h
 cases k with
 | zero => exact absurd h (by simp [F10.f])
 | succ k =>
 simp only [F10.f] at h
 have HB := sqh w
 have H : (if a0 < 0 then (F10.j0 k a0 (a0 == (wrap64 (-a0)))) else (F10.j0 k a0 false)) = some r := h
 clear h
 have HC2 := sqa H
 clear H
 go_enter func93, ntmps93
 go_upto_region 1 with (fail)
 go_cut [10] (fun v0 wc => ∃ (kq : Nat) (x0 : Bool), v0 = .bool x0 ∧ Aside0 (F10.j0 kq a0 x0 = some r) ∧ Aside0 (kq ≤ k) ∧ Aside0 (Below w.heap.size w wc))
 case first =>
  have H := HC2.1
  clear HC2
  by_cases c3 : a0 < 0
  ·rw [if_pos c3] at H
   have c3b0 : decide (a0 < 0) = true := decide_eq_true c3
   clear c3
   (first | rw [c3b0] | (simp only [i64_w, i32_w]; rw [c3b0]) | skip)
   have H' := sqa H
   clear H
   go_wp2
   go_meet
   case rel => exact ⟨_, ((a0 == (wrap64 (-a0)))), Z2, H', ⟨Z3⟩, ⟨sqB HB⟩⟩
  rw [if_neg c3] at H
  have c3b0 : decide (a0 < 0) = false := decide_eq_false c3
  clear c3
  (first | rw [c3b0] | (simp only [i64_w, i32_w]; rw [c3b0]) | skip)
  have H' := sqa H
  clear H
  go_wp2
  go_meet
  case rel => exact ⟨_, (false), Z2, H', ⟨Z3⟩, ⟨sqB HB⟩⟩
 case rest =>
  clear HC2
  obtain ⟨kq, x0, rfl, HA, HJ1, HB⟩ := hcut
  cases kq with
  | zero => exact absurd HA.out (by simp [F10.j0])
  | succ kj1 =>
   have H := HA.out
   clear HA
   simp only [F10.j0] at H
   by_cases c4 : x0 = true
   ·subst c4
    rw [if_pos rfl] at H
    obtain rfl := sqo H
    go_wp2
    go_ret
    exact ⟨Z14, sqB HB⟩
   obtain rfl := sqb c4
   rw [if_neg sqF] at H
   by_cases c5 : a0 < 0
   ·rw [if_pos c5] at H
    have c5b0 : decide (a0 < 0) = true := decide_eq_true c5
    clear c5
    obtain ⟨t0, A6, H⟩ := sqD H
    obtain ⟨c7, H⟩ := sqI H
    have c7b0 := eq_true c7
    have c7b1 : decide (1 + t0.size ≤ 9223372036854775807) = true := decide_eq_true c7
    try have c7b2 : (9223372036854775807 < 1 + t0.size) = False := eq_false (Nat.not_lt.2 c7)
    obtain rfl := sqo H
    go_wp2_with (first | ((with_reducible refine sqc 93 rfl ?_); refine sqC (some 15) func93 #[.int .i64 (wrap64 (-a0))] ?_; (with_reducible refine (ih kj1 Z102 (wrap64 (-a0)) t0 _ A6.1).mono ?_); refine sqV fun w8 hb => ?_; replace HB := sqS (sqB HB) hb))
    go_ret
    exact ⟨Z14, sqB HB⟩
   rw [if_neg c5] at H
   have c5b0 : decide (a0 < 0) = false := decide_eq_false c5
   clear c5
   by_cases c9 : a0 < 10
   ·rw [if_pos c9] at H
    have c9b0 : decide (a0 < 10) = true := decide_eq_true c9
    clear c9
    obtain ⟨y0, hy0⟩ : ∃ y_ : List Int, y_ = (([(wrap64 (48 + a0)) % 256] : List Int)) := ⟨_, rfl⟩
    replace H : (some (strOfNums y0)) = some r := sqW hy0 H
    have Ny0 := sqa hy0
    clear hy0
    obtain rfl := sqo H
    go_wp2_with (first | ((with_reducible refine sqd 22 rfl ?_); refine Kd.R_lit (Kd.int .u8) _ 5 ?hg (N := 22) ?hd (xs := ([(wrap64 (48 + a0)) % 256] : List Int)) (inner := [.int .u8 ((wrap64 (48 + a0)) % 256)]) (ok := fun _ => True) (okp := fun _ => True) ?hr ?hp (fun _ hk => hk) trivial (Below.refl _ _) (Nat.le_refl _) (by simp) ?_; (case hd => rfl); (case hg => rfl); (case hr => exact Z8); (case hp => exact (Reps.one (show Kd.M (Kd.int .u8) _ _ _ ((wrap64 (48 + a0)) % 256) [.int .u8 ((wrap64 (48 + a0)) % 256)] from rfl) (Reps.none _ _))); intro v1 w0 ho0 hb hg_ hnew_; clear hg_ hnew_; (first | rw [← Ny0.out] at ho0 | (simp only [Int.reduceToNat] at ho0; rw [← Ny0.out] at ho0)); have O0 := sqL ho0 (sqB HB); replace HB := sqS (sqB HB) hb; clear hb ho0; have hcv0 := own_string (P := prog) underlying43 underlying5 underlying9 (Kd.own_of_R O0.1)))
    go_ret
    exact ⟨Z14, sqB HB⟩
   rw [if_neg c9] at H
   have c9b0 : decide (a0 < 10) = false := decide_eq_false c9
   clear c9
   obtain ⟨t1, A0, H⟩ := sqD H
   obtain ⟨y1, hy1⟩ : ∃ y_ : List Int, y_ = (([(wrap64 (48 + (Int.tmod a0 10))) % 256] : List Int)) := ⟨_, rfl⟩
   replace H : (if t1.size + (strOfNums y1).size ≤ 9223372036854775807 then (some (t1 ++ (strOfNums y1))) else (none)) = some r := sqW hy1 H
   have Ny1 := sqa hy1
   clear hy1
   obtain ⟨c0, H⟩ := sqI H
   have c1 := eq_true c0
   have c2 : decide (t1.size + (strOfNums y1).size ≤ 9223372036854775807) = true := decide_eq_true c0
   try have c6 : (9223372036854775807 < t1.size + (strOfNums y1).size) = False := eq_false (Nat.not_lt.2 c0)
   obtain rfl := sqo H
   try go_wp2
   replace HB := sqa (below_drew1 HB.1)
   refine start_ (n := 11) (S := fun w' => True) (ds := []) #[false, false, false, false, false, false, false, false, false, false, false] (by kernel_rfl) rfl rfl trivial (fun hHeld => ?_); refine with_tabW F10.tab7 F10.bits7 (fun HT_ HW_ => ?_)
   generalize wc.drew = w2 at HB hHeld ⊢
   refine sqP 0 (some 24) (h := ?_)
   refine sqP 1 (some 25) (h := ?_)
   refine sqP 3 (some 27) (h := ?_)
   refine sqP 4 (some 28) (h := ?_)
   refine sqP 5 (some 29) (h := ?_)
   refine sqP 6 (some 30) (h := ?_)
   refine join_ (σ := Value) 2 #[true, true, true, true, true, true, true, true, true, false, false] (fun s_ => [(26, .string t1), (31, s_), (32, .string (strOfNums y1))]) (fun s_ w' => (Kd.R (Kd.int .u8) 5 w' w.heap.size (fun _ => True) s_ y1) ∧ (Below w.heap.size w w')) ?_ ?_
   rotate_left
   ·intro hCont
    refine two_ (i := 2) (j := 7) (Ni := some 26) (Nj := some 31) #[true, true, true, true, true, true, true, false, false, false, false] #[true, true, false, true, true, true, true, true, false, false, false] rfl rfl rfl rfl (two_of HT_.out (by kernel_rfl)) (by decide) (by decide) (fun K hK => ?_) (fun K hK => ?_)
    ·skip
     refine sqg func93 #[.int .i64 (wrap64 (Int.tdiv a0 10))] ?_
     with_reducible refine (ih kj1 Z102 (wrap64 (Int.tdiv a0 10)) t1 _ A0.1).mono ?_
     rintro e w3 ⟨rfl, hb⟩
     refine ⟨_, rfl, ?_⟩
     replace HB := sqS (sqB HB) hb
     refine hK.out _ _ trivial (fun hHeld => ?_)
     clear hK K
     refine sqN (some 26) ?_
     refine sq1 7 (some 31) (h := fun K hK => ?_)
     refine Kd.R_lit_step (Kd.int .u8) _ 5 ?hg (N := 31) ?hd (xs := ([(wrap64 (48 + (Int.tmod a0 10))) % 256] : List Int)) (inner := [.int .u8 ((wrap64 (48 + (Int.tmod a0 10))) % 256)]) (ok := fun _ => True) (okp := fun _ => True) ?hr ?hp (fun _ hk => hk) trivial (Below.refl _ _) (Nat.le_refl _) (by simp) ?_; (case hd => rfl); (case hg => rfl); (case hr => exact Z8); (case hp => exact Z103)
     intro v2 w4 ho1 hb hg_ hnew_
     clear hg_ hnew_
     (first | rw [← Ny1.out] at ho1 | (simp only [Int.reduceToNat] at ho1; rw [← Ny1.out] at ho1))
     have O1 := sqL ho1 (sqB HB)
     replace HB := sqS (sqB HB) hb
     clear hb ho1
     refine hK.out _ _ trivial (fun hHeld => ?_)
     clear hK K
     refine sqN (some 31) ?_
     refine sq1 8 (some 32) (h := fun K hK => ?_)
     have hcv1 := own_string (P := prog) underlying43 underlying5 underlying9 (Kd.own_of_R O1.1)
     refine value_ (w1 := ?_) (v := ?_) (by rfl) rfl ?_ ?_
     rotate_left 2
     ·go_simp
      constructor
      ·rfl
      ·rfl
     clear hcv1
     refine hK.out _ _ trivial (fun hHeld => ?_)
     clear hK K
     refine sqN (some 32) ?_
     exact norm_ Z34 (hCont (v2) _ ⟨(sqR O1), (sqB HB)⟩)
    ·skip
     refine Kd.R_lit_step (Kd.int .u8) _ 5 ?hg (N := 31) ?hd (xs := ([(wrap64 (48 + (Int.tmod a0 10))) % 256] : List Int)) (inner := [.int .u8 ((wrap64 (48 + (Int.tmod a0 10))) % 256)]) (ok := fun _ => True) (okp := fun _ => True) ?hr ?hp (fun _ hk => hk) trivial (Below.refl _ _) (Nat.le_refl _) (by simp) ?_; (case hd => rfl); (case hg => rfl); (case hr => exact Z8); (case hp => exact Z103)
     intro v2 w3 ho2 hb hg_ hnew_
     clear hg_ hnew_
     (first | rw [← Ny1.out] at ho2 | (simp only [Int.reduceToNat] at ho2; rw [← Ny1.out] at ho2))
     have O1 := sqL ho2 (sqB HB)
     replace HB := sqS (sqB HB) hb
     clear hb ho2
     refine hK.out _ _ trivial (fun hHeld => ?_)
     clear hK K
     refine sqN (some 31) ?_
     refine two_ (i := 2) (j := 8) (Ni := some 26) (Nj := some 32) #[true, true, true, true, true, true, true, true, false, false, false] #[true, true, false, true, true, true, true, true, true, false, false] rfl rfl rfl rfl (two_of HT_.out (by kernel_rfl)) (by decide) (by decide) (fun K hK => ?_) (fun K hK => ?_)
     ·skip
      refine sqg func93 #[.int .i64 (wrap64 (Int.tdiv a0 10))] ?_
      with_reducible refine (ih kj1 Z102 (wrap64 (Int.tdiv a0 10)) t1 _ A0.1).mono ?_
      rintro e w5 ⟨rfl, hb⟩
      refine ⟨_, rfl, ?_⟩
      replace O1 := sqU O1 hb
      replace HB := sqS (sqB HB) hb
      refine hK.out _ _ trivial (fun hHeld => ?_)
      clear hK K
      refine sqN (some 26) ?_
      refine sq1 8 (some 32) (h := fun K hK => ?_)
      have hcv1 := own_string (P := prog) underlying43 underlying5 underlying9 (Kd.own_of_R O1.1)
      refine value_ (w1 := ?_) (v := ?_) (by rfl) rfl ?_ ?_
      rotate_left 2
      ·go_simp
       constructor
       ·rfl
       ·rfl
      clear hcv1
      refine hK.out _ _ trivial (fun hHeld => ?_)
      clear hK K
      refine sqN (some 32) ?_
      exact norm_ Z34 (hCont (v2) _ ⟨(sqR O1), (sqB HB)⟩)
     ·skip
      have hcv2 := own_string (P := prog) underlying43 underlying5 underlying9 (Kd.own_of_R O1.1)
      refine value_ (w1 := ?_) (v := ?_) (by rfl) rfl ?_ ?_
      rotate_left 2
      ·go_simp
       constructor
       ·rfl
       ·rfl
      clear hcv2
      refine hK.out _ _ trivial (fun hHeld => ?_)
      clear hK K
      refine sqN (some 32) ?_
      refine sq1 2 (some 26) (h := fun K hK => ?_)
      refine sqg func93 #[.int .i64 (wrap64 (Int.tdiv a0 10))] ?_
      with_reducible refine (ih kj1 Z102 (wrap64 (Int.tdiv a0 10)) t1 _ A0.1).mono ?_
      rintro e w6 ⟨rfl, hb⟩
      refine ⟨_, rfl, ?_⟩
      replace O1 := sqU O1 hb
      replace HB := sqS (sqB HB) hb
      refine hK.out _ _ trivial (fun hHeld => ?_)
      clear hK K
      refine sqN (some 26) ?_
      exact norm_ Z34 (hCont (v2) _ ⟨(sqR O1), (sqB HB)⟩)
   rintro v2 w7 ⟨h0_, h1_⟩
   replace O1 := sqa h0_
   replace HB := sqa h1_
   clear h0_ h1_
   have hHeld := trivial
   refine norm_ (a' := ?_) ?_ ?_
   rotate_left
   ·simp only [putAll, Act.put, List.setIfInBounds_toArray, List.set_cons_zero, List.set_cons_succ]
    rfl
   refine sqP 9 (some 33) (h := ?_)
   refine sqP 10 (some 2) (h := ?_)
   refine done_ (done_of HT_.out (by kernel_rfl)) ?_
   try go_wp2
   go_ret
   exact ⟨Z14, sqB HB⟩

def F48.f (k : Nat) (a0_0 : Int) (a0_1 : Int) : Option (ByteArray) := (F7.f k a0_0 a0_1).bind fun t0 => (if t0 = true then (if a0_1 = 1 then ((F10.f k a0_0).bind fun t1 => (some t1)) else ((F10.f k a0_0).bind fun t2 => (if t2.size + 1 ≤ 9223372036854775807 then ((F10.f k a0_1).bind fun t3 => (if (t2 ++ (⟨#[47]⟩ : ByteArray)).size + t3.size ≤ 9223372036854775807 then (some ((t2 ++ (⟨#[47]⟩ : ByteArray)) ++ t3)) else (none))) else (none)))) else (some (⟨#[]⟩ : ByteArray)))
theorem F48.m : ∀ a0 a1 k, LeO (F48.f k a0 a1) (F48.f (k + 1) a0 a1) := by
 intro a0 a1 k
 unfold F48.f
 repeat' (with_reducible first | exact F7.m _ _ _ | exact F10.m _ _ | exact LeO.refl _ | exact LeO.none _ | refine LeO.ite ?_ ?_ | refine LeO.bind ?_ fun _ => ?_)
def F48.T5 : Bool × List (List Nat × List Nat) := (true, [([], []), ([0], [0]), ([1], [1]), ([2], [2]), ([], []), ([4], [4]), ([5, 2], [5]), ([3, 6], [3, 6]), ([7, 6, 0, 1, 2, 3, 4, 5, 6, 7], [7])])
def F48.B5 : List Nat := [0, 1, 3, 7, 0, 16, 55, 127, 255]
theorem F48.tab5 : rtab .any (opsOf f89 5) = F48.T5 := by kernel_rfl
theorem F48.bits5 : waitsOk F48.T5.2 F48.B5 = true := by kernel_rfl
theorem F48.c (k : Nat) (a0_0 : Int) (a0_1 : Int) (r : ByteArray) (w : World) (H : F48.f k a0_0 a0_1 = some r) :
  Calls prog 89 #[.agg #[.int .i64 a0_0, .int .i64 a0_1]] w fun e w' => e = .returned (.string r) ∧ Below w.heap.size w w' := by
 have hu31 := underlying31
 have HB := sqh w
 unfold F48.f at H
 obtain ⟨t0, A2, H⟩ := sqD H
 by_cases c3 : t0 = true
 ·subst c3
  rw [if_pos rfl] at H
  by_cases c4 : a0_1 = 1
  ·rw [if_pos c4] at H
   have c4b0 : (a0_1 == 1) = true := sqe1 c4
   have c4b1 : (a0_1 != 1) = false := sqn0 c4
   clear c4
   obtain ⟨t1, A5, H⟩ := sqD H
   obtain rfl := sqo H
   go_enter func89, ntmps89
   go_wp2_with (first | ((with_reducible refine sqd 1 rfl ?_); refine sqBx w (sqB HB) (cs := #[.int .i64 a0_0, .int .i64 a0_1]) (t := 31) ?_; intro g0 hg w6 B0 E0 HB hb; clear hb hg; have := sqY2 B0) | ((with_reducible refine sqc 77 rfl ?_); refine sqC (some 5) func77 #[.agg #[.int .i64 a0_0, .int .i64 a0_1]] ?_; (with_reducible refine (F7.c k a0_0 a0_1 true _ A2.1).mono ?_); refine sqV fun w8 hb => ?_; replace B0 := sqT B0 hb; replace HB := sqS (sqB1 HB E0) hb; have := sqY2 B0) | ((with_reducible refine sqc 93 rfl ?_); refine sqC (some 13) func93 #[.int .i64 a0_0] ?_; (with_reducible refine (F10.c k a0_0 t1 _ A5.1).mono ?_); refine sqV fun w0 hb => ?_; replace B0 := sqT B0 hb; replace HB := sqS (sqB1 HB E0) hb))
   go_ret
   exact ⟨Z14, sqB1 HB E0⟩
  rw [if_neg c4] at H
  have c4b0 : (a0_1 == 1) = false := sqe0 c4
  have c4b1 : (a0_1 != 1) = true := sqn1 c4
  obtain ⟨t2, A0, H⟩ := sqD H
  obtain ⟨c0, H⟩ := sqI H
  have c1 := eq_true c0
  have c2 : decide (t2.size + 1 ≤ 9223372036854775807) = true := decide_eq_true c0
  try have c5 : (9223372036854775807 < t2.size + 1) = False := eq_false (Nat.not_lt.2 c0)
  obtain ⟨t3, A1, H⟩ := sqD H
  obtain ⟨c6, H⟩ := sqI H
  have c7 := eq_true c6
  have c8 : decide ((t2 ++ (⟨#[47]⟩ : ByteArray)).size + t3.size ≤ 9223372036854775807) = true := decide_eq_true c6
  try have c9 : (9223372036854775807 < (t2 ++ (⟨#[47]⟩ : ByteArray)).size + t3.size) = False := eq_false (Nat.not_lt.2 c6)
  try have c10 : (9223372036854775807 < t2.size + 1 + t3.size) = False := by (have h_ := c9; (repeat rw [ByteArray.size_append] at h_); exact h_)
  obtain rfl := sqo H
  go_enter func89, ntmps89
  try go_wp2_with (first | ((with_reducible refine sqd 1 rfl ?_); refine sqBx w (sqB HB) (cs := #[.int .i64 a0_0, .int .i64 a0_1]) (t := 31) ?_; intro g0 hg w1 B0 E0 HB hb; clear hb hg; have := sqY2 B0) | ((with_reducible refine sqc 77 rfl ?_); refine sqC (some 5) func77 #[.agg #[.int .i64 a0_0, .int .i64 a0_1]] ?_; (with_reducible refine (F7.c k a0_0 a0_1 true _ A2.1).mono ?_); refine sqV fun w2 hb => ?_; replace B0 := sqT B0 hb; replace HB := sqS (sqB1 HB E0) hb; have := sqY2 B0))
  replace B0 := sqa (blk_drew B0.1)
  replace HB := sqa (below_drew1 HB.1)
  refine start_ (n := 9) (S := fun w' => w'.cell? ⟨g0, 0, none⟩ = some (.int .i64 a0_0) ∧ w'.cell? ⟨g0, 1, none⟩ = some (.int .i64 a0_1)) (ds := []) #[false, false, false, false, false, false, false, false, false] (by kernel_rfl) rfl rfl (sqk1 B0) (fun hHeld => ?_); refine with_tabW F48.tab5 F48.bits5 (fun HT_ HW_ => ?_)
  generalize w2.drew = w3 at B0 HB hHeld ⊢
  refine sqP 0 (some 14) (h := ?_)
  refine sqP 4 (some 18) (h := ?_)
  refine sqQ 1 (some 15) hHeld (h := ?_)
  refine sqQ 5 (some 19) hHeld (h := ?_)
  refine sq1 2 (some 16) (h := fun K hK => ?_)
  refine sqg func93 #[.int .i64 a0_0] ?_
  with_reducible refine (F10.c k a0_0 t2 _ A0.1).mono ?_
  rintro e w4 ⟨rfl, hb⟩
  refine ⟨_, rfl, ?_⟩
  replace B0 := sqT B0 hb
  replace HB := sqS (sqB1 HB E0) hb
  refine hK.out _ _ (sqk1 B0) (fun hHeld => ?_)
  clear hK K
  refine sqN (some 16) ?_
  refine sqP 3 (some 17) (h := ?_)
  refine sq1 6 (some 20) (h := fun K hK => ?_)
  refine sqg func93 #[.int .i64 a0_1] ?_
  with_reducible refine (F10.c k a0_1 t3 _ A1.1).mono ?_
  rintro e w5 ⟨rfl, hb⟩
  refine ⟨_, rfl, ?_⟩
  replace B0 := sqT B0 hb
  replace HB := sqS (sqB1 HB E0) hb
  refine hK.out _ _ (sqk1 B0) (fun hHeld => ?_)
  clear hK K
  refine sqN (some 20) ?_
  refine sqP 7 (some 21) (h := ?_)
  refine sqP 8 (some 2) (h := ?_)
  refine done_ (done_of HT_.out (by kernel_rfl)) ?_
  try go_wp2
  go_ret
  exact ⟨Z14, sqB1 HB E0⟩
 obtain rfl := sqb c3
 rw [if_neg sqF] at H
 obtain rfl := sqo H
 go_enter func89, ntmps89
 go_wp2_with (first | ((with_reducible refine sqd 1 rfl ?_); refine sqBx w (sqB HB) (cs := #[.int .i64 a0_0, .int .i64 a0_1]) (t := 31) ?_; intro g0 hg w7 B0 E0 HB hb; clear hb hg; have := sqY2 B0) | ((with_reducible refine sqc 77 rfl ?_); refine sqC (some 5) func77 #[.agg #[.int .i64 a0_0, .int .i64 a0_1]] ?_; (with_reducible refine (F7.c k a0_0 a0_1 false _ A2.1).mono ?_); refine sqV fun w9 hb => ?_; replace B0 := sqT B0 hb; replace HB := sqS (sqB1 HB E0) hb))
 go_ret
 exact ⟨Z14, sqB1 HB E0⟩

def F22.l0 : Nat → ByteArray → Int → List ByteArray → Int → Int → Option (List ByteArray)
 | 0, _, _, _, _, _ => none
 | k + 1, x0, x1, x5, x6, x7 => if x7 < (x0.size : Int) then (if 0 ≤ x7 then (if (bt x0 x7) = x1 then (if 0 ≤ x6 then (if x6 ≤ x7 then (if x7 ≤ (x0.size : Int) then (if x5.length < 8796093022208 then (F22.l0 k x0 x1 (x5 ++ [x0.extract (x6 : Int).toNat (x7 : Int).toNat]) (wrap64 (x7 + 1)) (wrap64 (x7 + 1))) else (none)) else (none)) else (none)) else (none)) else (F22.l0 k x0 x1 x5 x6 (wrap64 (x7 + 1)))) else (none)) else (if 0 ≤ x6 then (if x6 ≤ (x0.size : Int) then (if x5.length < 8796093022208 then (some (x5 ++ [x0.extract (x6 : Int).toNat x0.size])) else (none)) else (none)) else (none))
def F22.f (k : Nat) (a0 : ByteArray) (a1 : Int) : Option (List ByteArray) := F22.l0 k a0 a1 (([] : List ByteArray)) 0 0
abbrev F22.M (k : Nat) : Prop := (∀ y0 y1 y2 y3 y4, LeO (F22.l0 k y0 y1 y2 y3 y4) (F22.l0 (k + 1) y0 y1 y2 y3 y4))
theorem F22.mt : ∀ k, F22.M k → F22.M (k + 1) ∧ ∀ a0 a1, LeO (F22.f k a0 a1) (F22.f (k + 1) a0 a1) := by
  rintro k ih0
  refine ⟨?_, ?_⟩ <;> (try unfold F22.M) <;> intros <;> (first | unfold F22.l0 | unfold F22.f) <;> repeat' (with_reducible first | exact ih0 _ _ _ _ _ | exact LeO.refl _ | exact LeO.none _ | refine LeO.ite ?_ ?_ | refine LeO.bind ?_ fun _ => ?_)
theorem F22.ml : ∀ k, F22.M k
 | 0 => fun _ _ _ _ _ r h => by simp [F22.l0] at h
 | k + 1 => (F22.mt k (F22.ml k)).1
theorem F22.m a0 a1 k : LeO (F22.f k a0 a1) (F22.f (k + 1) a0 a1) := (F22.mt k (F22.ml k)).2 a0 a1
theorem F22.c (k : Nat) (a0 : ByteArray) (a1 : Int) (r : List ByteArray) (w : World) (H : F22.f k a0 a1 = some r) :
  Calls prog 99 #[.string a0, .int .u8 a1] w fun e w' => ∃ v0_ : Value, e = .returned (v0_) ∧ Kd.R Kd.string 9 w' w.heap.size (fun _ => True) v0_ r ∧ Below w.heap.size w w' := by
 have HB := sqh w
 unfold F22.f at H
 obtain ⟨y0, hy0⟩ : ∃ y_ : List ByteArray, y_ = (([] : List ByteArray)) := ⟨_, rfl⟩
 replace H : (F22.l0 k a0 a1 y0 0 0) = some r := sqW hy0 H
 have Ny0 := sqa hy0
 clear hy0
 have H' := sqa H
 clear H
 go_enter func99, ntmps99
 go_wp2_with (first | ((with_reducible refine sqd 8 rfl ?_); refine Kd.R_lit Kd.string _ 9 ?hg (N := 8) ?hd (xs := ([] : List ByteArray)) (inner := []) (ok := fun _ => True) (okp := fun _ => True) ?hr ?hp (fun _ hk => hk) trivial (Below.refl _ _) (Nat.le_refl _) (by simp) ?_; (case hd => rfl); (case hg => rfl); (case hr => exact Z8); (case hp => exact Z23); intro v0 w3 ho4 hb hg_ hnew_; clear hg_ hnew_; (first | rw [← Ny0.out] at ho4 | (simp only [Int.reduceToNat] at ho4; rw [← Ny0.out] at ho4)); have O0 := sqL ho4 (sqB HB); replace HB := sqS (sqB HB) hb; clear hb ho4))
 go_loopg [5, 6, 7] k (fun kq v5 v6 v7 w' => ∃ (x5_1 : List ByteArray) (x6_1 : Int) (x7_1 : Int), v6 = .int .i64 x6_1 ∧ v7 = .int .i64 x7_1 ∧ Aside0 (F22.l0 kq a0 a1 x5_1 x6_1 x7_1 = some r) ∧ Aside0 (kq ≤ k) ∧ Aside0 (Kd.R Kd.string 9 w' w.heap.size (fun _ => True) v5 x5_1) ∧ Aside0 (Below w.heap.size w w'))
 case atStart => exact ⟨(y0), (0), (0), Z2, Z2, H', ⟨Nat.le_refl _⟩, ⟨sqR O0⟩, ⟨sqB HB⟩⟩
 case round =>
  clear H'
  obtain ⟨x5_1, x6_1, x7_1, rfl, rfl, HA, HK1, O1, HB⟩ := hrel
  cases gk with
  | zero => exact absurd HA.out (by simp [F22.l0])
  | succ k1 =>
   have H := HA.out
   clear HA
   simp only [F22.l0] at H
   by_cases c5 : x7_1 < (a0.size : Int)
   ·rw [if_pos c5] at H
    have c5b0 : decide (x7_1 < (a0.size : Int)) = true := decide_eq_true c5
    clear c5
    obtain ⟨c6, H⟩ := sqI H
    have c6b0 : decide (0 ≤ x7_1) = true := decide_eq_true c6
    clear c6
    by_cases c8 : (bt a0 x7_1) = a1
    ·rw [if_pos c8] at H
     have c8b0 : ((bt a0 x7_1) == a1) = true := sqe1 c8
     have c8b1 : ((bt a0 x7_1) != a1) = false := sqn0 c8
     clear c8
     obtain ⟨c9, H⟩ := sqI H
     have c9b0 := eq_true c9
     have c9b1 : decide (0 ≤ x6_1) = true := decide_eq_true c9
     clear c9
     obtain ⟨c10, H⟩ := sqI H
     have c0 := eq_true c10
     have c1 : decide (x6_1 ≤ x7_1) = true := decide_eq_true c10
     clear c10
     obtain ⟨c2, H⟩ := sqI H
     have c3 := eq_true c2
     have c4 : decide (x7_1 ≤ (a0.size : Int)) = true := decide_eq_true c2
     clear c2
     obtain ⟨c7, H⟩ := sqI H
     have LMc0 := sqa c7
     clear c7
     obtain ⟨y1, hy1⟩ : ∃ y_ : List ByteArray, y_ = (x5_1 ++ [a0.extract (x6_1 : Int).toNat (x7_1 : Int).toNat]) := ⟨_, rfl⟩
     replace H : (F22.l0 k1 a0 a1 y1 (wrap64 (x7_1 + 1)) (wrap64 (x7_1 + 1))) = some r := sqW hy1 H
     have Ny1 := sqa hy1
     clear hy1
     have H' := sqa H
     clear H
     have p7 : 0 ≤ (x7_1 : Int) := of_decide_eq_true Z7
     have q7 : x7_1 < (a0.size : Int) := of_decide_eq_true Z7
     have hx7 := bt_at a0 x7_1
     replace p7 := eq_true p7
     replace q7 := eq_true q7
     go_wp2_with (first | ((with_reducible refine gate_builtin (b := .append) (xs := #[.tmp 20, .tmp 25]) rfl ?_); at_builtin; refine Kd.R_append Kd.string (w0 := w) w.heap.size rfl (.tmp 20) (.tmp 25) 73 9 (.string ⟨#[]⟩) 16 rfl underlying73 info9 rfl (by decide) (by omega) u5 x5_1 (a0.extract (x6_1 : Int).toNat (x7_1 : Int).toNat) [.string (a0.extract (x6_1 : Int).toNat (x7_1 : Int).toNat)] (fun _ => True) (fun _ => False) rfl rfl ?aP (fun _ hk => hk.elim) ?aF ?aO ?aB ?aS ?aL ?_; (case aP => exact rfl); (case aB => exact (sqB HB)); (case aF => exact Z24); (case aO => exact (sqR O1)); (case aS => exact (below_size (sqB HB))); (case aL => exact Z15 LMc0); intro v1 w1 ho hb hg hat; rw [← Ny1.out] at ho; replace HB := sqa (hb); have O2 := sqa (ho); clear O1; clear ho hb hg hat))
     go_roundg k1
     case measure => have := HK1.out; omega
     case rel => exact ⟨(y1), (wrap64 (x7_1 + 1)), (wrap64 (x7_1 + 1)), Z2, Z2, H', ⟨Z15 HK1⟩, ⟨sqR O2⟩, ⟨sqB HB⟩⟩
    rw [if_neg c8] at H
    have c8b0 : ((bt a0 x7_1) == a1) = false := sqe0 c8
    have c8b1 : ((bt a0 x7_1) != a1) = true := sqn1 c8
    have H' := sqa H
    clear H
    have p7 : 0 ≤ (x7_1 : Int) := of_decide_eq_true Z7
    have q7 : x7_1 < (a0.size : Int) := of_decide_eq_true Z7
    have hx7 := bt_at a0 x7_1
    replace p7 := eq_true p7
    replace q7 := eq_true q7
    go_wp2
    go_roundg k1
    case measure => have := HK1.out; omega
    case rel => exact ⟨(x5_1), (x6_1), (wrap64 (x7_1 + 1)), Z2, Z2, H', ⟨Z15 HK1⟩, ⟨sqR O1⟩, ⟨sqB HB⟩⟩
   rw [if_neg c5] at H
   have c5b0 : decide (x7_1 < (a0.size : Int)) = false := decide_eq_false c5
   clear c5
   obtain ⟨c14, H⟩ := sqI H
   have c17 := eq_true c14
   have c18 : decide (0 ≤ x6_1) = true := decide_eq_true c14
   clear c14
   obtain ⟨c15, H⟩ := sqI H
   have c20 := eq_true c15
   have c21 : decide (x6_1 ≤ (a0.size : Int)) = true := decide_eq_true c15
   clear c15
   obtain ⟨c16, H⟩ := sqI H
   have LMc1 := sqa c16
   clear c16
   obtain ⟨y2, hy2⟩ : ∃ y_ : List ByteArray, y_ = (x5_1 ++ [a0.extract (x6_1 : Int).toNat a0.size]) := ⟨_, rfl⟩
   replace H : (some y2) = some r := sqW hy2 H
   have Ny2 := sqa hy2
   clear hy2
   obtain rfl := sqo H
   go_wp2_with (first | ((with_reducible refine gate_builtin (b := .append) (xs := #[.tmp 29, .tmp 33]) rfl ?_); at_builtin; refine Kd.R_append Kd.string (w0 := w) w.heap.size rfl (.tmp 29) (.tmp 33) 73 9 (.string ⟨#[]⟩) 16 rfl underlying73 info9 rfl (by decide) (by omega) u5 x5_1 (a0.extract (x6_1 : Int).toNat a0.size) [.string (a0.extract (x6_1 : Int).toNat a0.size)] (fun _ => True) (fun _ => False) rfl rfl ?aP (fun _ hk => hk.elim) ?aF ?aO ?aB ?aS ?aL ?_; (case aP => exact rfl); (case aB => exact (sqB HB)); (case aF => exact Z24); (case aO => exact (sqR O1)); (case aS => exact (below_size (sqB HB))); (case aL => exact Z15 LMc1); intro v2 w2 ho hb hg hat; rw [← Ny2.out] at ho; replace HB := sqa (hb); have O3 := sqa (ho); clear O1; clear ho hb hg hat))
   go_ret
   exact ⟨_, Z14, Z25 O3, sqB HB⟩
end Go.Proofs.YtofmlbgfcohhoaaGreatDoor.PFnReadJournal
