import Derived.Test.YtofmlbgfcohhoaaGreatDoorPFnDeskSayx3
set_option maxHeartbeats 8000000
set_option maxRecDepth 100000
namespace Go.Proofs.YtofmlbgfcohhoaaGreatDoor.PFnDeskSay
open Go.RowKit Go.Proofs.YtofmlbgfcohhoaaGreatDoorW.PrintWords Go.Proofs.YtofmlbgfcohhoaaGreatDoorW.PrintLast Go.Proofs.YtofmlbgfcohhoaaGreatDoorW.PrintMore Go.Proofs.YtofmlbgfcohhoaaGreatDoor.Lib Go.Proofs.Tryz
attribute [local go_sem] max2_int min2_int max_two min_two max_three min_three max_four min_four   -- for this text's walks alone
set_option linter.unusedVariables false
set_option linter.unusedSimpArgs false

mutual
def F4.j0 : Nat → Int → Bool → Option (ByteArray)
 | 0, _, _ => none
 | k + 1, x0, x1 => if x1 = true then (some (⟨#[45, 57, 50, 50, 51, 51, 55, 50, 48, 51, 54, 56, 53, 52, 55, 55, 53, 56, 48, 56]⟩ : ByteArray)) else (if x0 < 0 then ((F4.f k (wrap64 (-x0))).bind fun t0 => (if 1 + t0.size ≤ 9223372036854775807 then (some ((⟨#[45]⟩ : ByteArray) ++ t0)) else (none))) else (if x0 < 10 then (some (strOfNums (([(wrap64 (48 + x0)) % 256] : List Int)))) else ((F4.f k (wrap64 (Int.tdiv x0 10))).bind fun t1 => ((some (([(wrap64 (48 + (Int.tmod x0 10))) % 256] : List Int) : List Int)).bind fun y0 => (if t1.size + (strOfNums y0).size ≤ 9223372036854775807 then (some (t1 ++ (strOfNums y0))) else (none))))))
def F4.f : Nat → Int → Option (ByteArray)
 | 0, _ => none
 | k + 1, a0 => if a0 < 0 then (F4.j0 k a0 (a0 == (wrap64 (-a0)))) else (F4.j0 k a0 false)
end
def F4.T7 : Bool × List (List Nat × List Nat) := (true, [([], []), ([0], [0]), ([1], [1]), ([], []), ([3], [3]), ([4], [4]), ([5], [5]), ([6], [6]), ([7], [7]), ([2, 8], [2, 8]), ([9, 2, 0, 1, 2, 3, 4, 5, 6, 7, 8, 9], [9])])
def F4.B7 : List Nat := [0, 1, 3, 0, 8, 24, 56, 120, 248, 511, 1023]
theorem F4.tab7 : rtab .any (opsOf f93 7) = F4.T7 := by kernel_rfl
theorem F4.bits7 : waitsOk F4.T7.2 F4.B7 = true := by kernel_rfl
theorem F4.c (k : Nat) : ∀ (a0 : Int) (r : ByteArray) (w : World) (h : F4.f k a0 = some r),
  Calls prog 93 #[.int .i64 a0] w fun e w' => e = .returned (.string r) ∧ Below w.heap.size w w' := by
 induction k using Nat.strongRecOn with
 | _ k ih =>
 intro a0 r w h
 cases k with
 | zero => exact absurd h (by simp [F4.f])
 | succ k =>
 simp only [F4.f] at h
 have HB := sqh w
 have H : (if a0 < 0 then (F4.j0 k a0 (a0 == (wrap64 (-a0)))) else (F4.j0 k a0 false)) = some r := h
 clear h
 have HC2 := sqa H
 clear H
 go_enter func93, ntmps93
 go_upto_region 1 with (fail)
 go_cut [10] (fun v0 wc => ∃ (kq : Nat) (x0 : Bool), v0 = .bool x0 ∧ Aside0 (F4.j0 kq a0 x0 = some r) ∧ Aside0 (kq ≤ k) ∧ Aside0 (Below w.heap.size w wc))
 case first =>
  have H := HC2.1
  clear HC2
  obtain ⟨c3b0, H⟩ | ⟨c3b0, H⟩ := sqi3 H
  ·(first | rw [c3b0] | (simp only [i64_w, i32_w]; rw [c3b0]) | skip)
   have H' := sqa H
   clear H
   go_wp2
   go_meet
   case rel => exact ⟨_, ((a0 == (wrap64 (-a0)))), Z1, H', ⟨Z11⟩, ⟨sqB HB⟩⟩
  (first | rw [c3b0] | (simp only [i64_w, i32_w]; rw [c3b0]) | skip)
  have H' := sqa H
  clear H
  go_wp2
  go_meet
  case rel => exact ⟨_, (false), Z1, H', ⟨Z11⟩, ⟨sqB HB⟩⟩
 case rest =>
  clear HC2
  obtain ⟨kq, x0, rfl, HA, HJ1, HB⟩ := hcut
  cases kq with
  | zero => exact absurd HA.out (by simp [F4.j0])
  | succ kj1 =>
   have H := HA.out
   clear HA
   simp only [F4.j0] at H
   obtain rfl | rfl := sqt x0
   ·rw [if_pos rfl] at H
    obtain rfl := sqo H
    go_wp2
    go_ret
    exact ⟨Z5, sqB HB⟩
   rw [if_neg sqF] at H
   obtain ⟨c5b0, H⟩ | ⟨c5b0, H⟩ := sqi3 H
   ·obtain ⟨t0, A6, H⟩ := sqD H
    obtain ⟨c7, c7b0, c7b1, H⟩ := sqJ5 H
    try have c7b2 : (9223372036854775807 < 1 + t0.size) = False := eq_false (Nat.not_lt.2 c7)
    obtain rfl := sqo H
    go_wp2_with (first | ((with_reducible refine sqc 93 rfl ?_); refine sqC (some 15) func93 #[.int .i64 (wrap64 (-a0))] ?_; (with_reducible refine (ih kj1 Z22 (wrap64 (-a0)) t0 _ A6.1).mono ?_); refine sqV fun w8 hb => ?_; replace HB := sqS (sqB HB) hb))
    go_ret
    exact ⟨Z5, sqB HB⟩
   obtain ⟨c9b0, H⟩ | ⟨c9b0, H⟩ := sqi3 H
   ·obtain ⟨y0, hy0⟩ : ∃ y_ : List Int, y_ = (([(wrap64 (48 + a0)) % 256] : List Int)) := ⟨_, rfl⟩
    replace H : (some (strOfNums y0)) = some r := sqW hy0 H
    have Ny0 := sqa hy0
    clear hy0
    obtain rfl := sqo H
    go_wp2_with (first | ((with_reducible refine sqd 22 rfl ?_); refine Kd.R_lit (Kd.int .u8) _ 5 ?hg (N := 22) ?hd (xs := ([(wrap64 (48 + a0)) % 256] : List Int)) (inner := [.int .u8 ((wrap64 (48 + a0)) % 256)]) (ok := fun _ => True) (okp := fun _ => True) ?hr ?hp (fun _ hk => hk) trivial (Below.refl _ _) (Nat.le_refl _) (by simp) ?_; (case hd => rfl); (case hg => rfl); (case hr => exact Z17); (case hp => exact (Reps.one (show Kd.M (Kd.int .u8) _ _ _ ((wrap64 (48 + a0)) % 256) [.int .u8 ((wrap64 (48 + a0)) % 256)] from rfl) (Reps.none _ _))); intro v1 w0 ho0 hb hg_ hnew_; clear hg_ hnew_; (first | rw [← Ny0.out] at ho0 | (simp only [Int.reduceToNat] at ho0; rw [← Ny0.out] at ho0)); have O0 := sqL ho0 (sqB HB); replace HB := sqS (sqB HB) hb; clear hb ho0; have hcv0 := own_string (P := prog) underlying43 underlying5 underlying9 (Kd.own_of_R O0.1)))
    go_ret
    exact ⟨Z5, sqB HB⟩
   obtain ⟨t1, A0, H⟩ := sqD H
   obtain ⟨y1, hy1⟩ : ∃ y_ : List Int, y_ = (([(wrap64 (48 + (Int.tmod a0 10))) % 256] : List Int)) := ⟨_, rfl⟩
   replace H : (if t1.size + (strOfNums y1).size ≤ 9223372036854775807 then (some (t1 ++ (strOfNums y1))) else (none)) = some r := sqW hy1 H
   have Ny1 := sqa hy1
   clear hy1
   obtain ⟨c0, c1, c2, H⟩ := sqJ5 H
   try have c6 : (9223372036854775807 < t1.size + (strOfNums y1).size) = False := eq_false (Nat.not_lt.2 c0)
   obtain rfl := sqo H
   try go_wp2
   replace HB := sqa (below_drew1 HB.1)
   refine start_ (n := 11) (S := fun w' => True) (ds := []) #[false, false, false, false, false, false, false, false, false, false, false] (by kernel_rfl) rfl rfl trivial (fun hHeld => ?_); refine with_tabW F4.tab7 F4.bits7 (fun HT_ HW_ => ?_)
   generalize wc.drew = w2 at HB hHeld ⊢
   refine sqP 0 (some 24) (h := ?_)
   refine sqP 1 (some 25) (h := ?_)
   refine sqP 3 (some 27) (h := ?_)
   refine sqP 4 (some 28) (h := ?_)
   refine sqP 5 (some 29) (h := ?_)
   refine sqP 6 (some 30) (h := ?_)
   refine join_ (σ := Value) 2 #[true, true, true, true, true, true, true, true, true, false, false] (fun s_ => [(26, .string t1), (31, s_), (32, .string (strOfNums y1))]) (fun s_ w' => (Kd.R (Kd.int .u8) 5 w' w.heap.size (fun _ => True) s_ y1) ∧ (Below w.heap.size w w')) ?_ ?_
   rotate_left
   ·intro hCont
    refine two_ (i := 2) (j := 7) (Ni := some 26) (Nj := some 31) #[true, true, true, true, true, true, true, false, false, false, false] #[true, true, false, true, true, true, true, true, false, false, false] rfl rfl rfl rfl (two_of HT_.out (by kernel_rfl)) (by decide) (by decide) (fun K hK => ?_) (fun K hK => ?_)
    ·skip
     refine sqg func93 #[.int .i64 (wrap64 (Int.tdiv a0 10))] ?_
     with_reducible refine (ih kj1 Z22 (wrap64 (Int.tdiv a0 10)) t1 _ A0.1).mono ?_
     rintro e w3 ⟨rfl, hb⟩
     refine ⟨_, rfl, ?_⟩
     replace HB := sqS (sqB HB) hb
     refine hK.out _ _ trivial (fun hHeld => ?_)
     clear hK K
     refine sqN (some 26) ?_
     refine sq1 7 (some 31) (h := fun K hK => ?_)
     refine Kd.R_lit_step (Kd.int .u8) _ 5 ?hg (N := 31) ?hd (xs := ([(wrap64 (48 + (Int.tmod a0 10))) % 256] : List Int)) (inner := [.int .u8 ((wrap64 (48 + (Int.tmod a0 10))) % 256)]) (ok := fun _ => True) (okp := fun _ => True) ?hr ?hp (fun _ hk => hk) trivial (Below.refl _ _) (Nat.le_refl _) (by simp) ?_; (case hd => rfl); (case hg => rfl); (case hr => exact Z17); (case hp => exact Z23)
     intro v2 w4 ho1 hb hg_ hnew_
     clear hg_ hnew_
     (first | rw [← Ny1.out] at ho1 | (simp only [Int.reduceToNat] at ho1; rw [← Ny1.out] at ho1))
     have O1 := sqL ho1 (sqB HB)
     replace HB := sqS (sqB HB) hb
     clear hb ho1
     refine hK.out _ _ trivial (fun hHeld => ?_)
     clear hK K
     refine sqN (some 31) ?_
     refine sq1 8 (some 32) (h := fun K hK => ?_)
     have hcv1 := own_string (P := prog) underlying43 underlying5 underlying9 (Kd.own_of_R O1.1)
     refine value_ (w1 := ?_) (v := ?_) (by rfl) rfl ?_ ?_
     rotate_left 2
     ·go_simp
      constructor
      ·rfl
      ·rfl
     clear hcv1
     refine hK.out _ _ trivial (fun hHeld => ?_)
     clear hK K
     refine sqN (some 32) ?_
     exact norm_ Z20 (hCont (v2) _ ⟨(sqR O1), (sqB HB)⟩)
    ·skip
     refine Kd.R_lit_step (Kd.int .u8) _ 5 ?hg (N := 31) ?hd (xs := ([(wrap64 (48 + (Int.tmod a0 10))) % 256] : List Int)) (inner := [.int .u8 ((wrap64 (48 + (Int.tmod a0 10))) % 256)]) (ok := fun _ => True) (okp := fun _ => True) ?hr ?hp (fun _ hk => hk) trivial (Below.refl _ _) (Nat.le_refl _) (by simp) ?_; (case hd => rfl); (case hg => rfl); (case hr => exact Z17); (case hp => exact Z23)
     intro v2 w3 ho2 hb hg_ hnew_
     clear hg_ hnew_
     (first | rw [← Ny1.out] at ho2 | (simp only [Int.reduceToNat] at ho2; rw [← Ny1.out] at ho2))
     have O1 := sqL ho2 (sqB HB)
     replace HB := sqS (sqB HB) hb
     clear hb ho2
     refine hK.out _ _ trivial (fun hHeld => ?_)
     clear hK K
     refine sqN (some 31) ?_
     refine two_ (i := 2) (j := 8) (Ni := some 26) (Nj := some 32) #[true, true, true, true, true, true, true, true, false, false, false] #[true, true, false, true, true, true, true, true, true, false, false] rfl rfl rfl rfl (two_of HT_.out (by kernel_rfl)) (by decide) (by decide) (fun K hK => ?_) (fun K hK => ?_)
     ·skip
      refine sqg func93 #[.int .i64 (wrap64 (Int.tdiv a0 10))] ?_
      with_reducible refine (ih kj1 Z22 (wrap64 (Int.tdiv a0 10)) t1 _ A0.1).mono ?_
      rintro e w5 ⟨rfl, hb⟩
      refine ⟨_, rfl, ?_⟩
      replace O1 := sqU O1 hb
      replace HB := sqS (sqB HB) hb
      refine hK.out _ _ trivial (fun hHeld => ?_)
      clear hK K
      refine sqN (some 26) ?_
      refine sq1 8 (some 32) (h := fun K hK => ?_)
      have hcv1 := own_string (P := prog) underlying43 underlying5 underlying9 (Kd.own_of_R O1.1)
      refine value_ (w1 := ?_) (v := ?_) (by rfl) rfl ?_ ?_
      rotate_left 2
      ·go_simp
       constructor
       ·rfl
       ·rfl
      clear hcv1
      refine hK.out _ _ trivial (fun hHeld => ?_)
      clear hK K
      refine sqN (some 32) ?_
      exact norm_ Z20 (hCont (v2) _ ⟨(sqR O1), (sqB HB)⟩)
     ·skip
      have hcv2 := own_string (P := prog) underlying43 underlying5 underlying9 (Kd.own_of_R O1.1)
      refine value_ (w1 := ?_) (v := ?_) (by rfl) rfl ?_ ?_
      rotate_left 2
      ·go_simp
       constructor
       ·rfl
       ·rfl
      clear hcv2
      refine hK.out _ _ trivial (fun hHeld => ?_)
      clear hK K
      refine sqN (some 32) ?_
      refine sq1 2 (some 26) (h := fun K hK => ?_)
      refine sqg func93 #[.int .i64 (wrap64 (Int.tdiv a0 10))] ?_
      with_reducible refine (ih kj1 Z22 (wrap64 (Int.tdiv a0 10)) t1 _ A0.1).mono ?_
      rintro e w6 ⟨rfl, hb⟩
      refine ⟨_, rfl, ?_⟩
      replace O1 := sqU O1 hb
      replace HB := sqS (sqB HB) hb
      refine hK.out _ _ trivial (fun hHeld => ?_)
      clear hK K
      refine sqN (some 26) ?_
      exact norm_ Z20 (hCont (v2) _ ⟨(sqR O1), (sqB HB)⟩)
   rintro v2 w7 ⟨h0_, h1_⟩
   replace O1 := sqa h0_
   replace HB := sqa h1_
   clear h0_ h1_
   have hHeld := trivial
   refine norm_ (a' := ?_) ?_ ?_
   rotate_left
   ·simp only [putAll, Act.put, List.setIfInBounds_toArray, List.set_cons_zero, List.set_cons_succ]
    rfl
   refine sqP 9 (some 33) (h := ?_)
   refine sqP 10 (some 2) (h := ?_)
   refine done_ (done_of HT_.out (by kernel_rfl)) ?_
   try go_wp2
   go_ret
   exact ⟨Z5, sqB HB⟩

def F19.f (k : Nat) (a0_0 : Int) (a0_1 : Int) : Option (ByteArray) := (F0.f k a0_0 a0_1).bind fun t0 => (if t0 = true then (if a0_1 = 1 then ((F4.f k a0_0).bind fun t1 => (some t1)) else ((F4.f k a0_0).bind fun t2 => (if t2.size + 1 ≤ 9223372036854775807 then ((F4.f k a0_1).bind fun t3 => (if (t2 ++ (⟨#[47]⟩ : ByteArray)).size + t3.size ≤ 9223372036854775807 then (some ((t2 ++ (⟨#[47]⟩ : ByteArray)) ++ t3)) else (none))) else (none)))) else (some (⟨#[]⟩ : ByteArray)))
def F19.T5 : Bool × List (List Nat × List Nat) := (true, [([], []), ([0], [0]), ([1], [1]), ([2], [2]), ([], []), ([4], [4]), ([5, 2], [5]), ([3, 6], [3, 6]), ([7, 6, 0, 1, 2, 3, 4, 5, 6, 7], [7])])
def F19.B5 : List Nat := [0, 1, 3, 7, 0, 16, 55, 127, 255]
theorem F19.tab5 : rtab .any (opsOf f89 5) = F19.T5 := by kernel_rfl
theorem F19.bits5 : waitsOk F19.T5.2 F19.B5 = true := by kernel_rfl
theorem F19.c (k : Nat) (a0_0 : Int) (a0_1 : Int) (r : ByteArray) (w : World) (H : F19.f k a0_0 a0_1 = some r) :
  Calls prog 89 #[.agg #[.int .i64 a0_0, .int .i64 a0_1]] w fun e w' => e = .returned (.string r) ∧ Below w.heap.size w w' := by
 have hu31 := underlying31
 have HB := sqh w
 unfold F19.f at H
 obtain ⟨t0, A2, H⟩ := sqD H
 obtain rfl | rfl := sqt t0
 ·rw [if_pos rfl] at H
  obtain ⟨c4b0, c4b1, H⟩ | ⟨c4b0, c4b1, c4, H⟩ := sqi4 H
  ·obtain ⟨t1, A5, H⟩ := sqD H
   obtain rfl := sqo H
   go_enter func89, ntmps89
   go_wp2_with (first | ((with_reducible refine sqd 1 rfl ?_); refine sqx0 w (sqB HB) #[.int .i64 a0_0, .int .i64 a0_1] 31 fun g0 w6 B0 E0 HB => ?_; have := sqY2 B0) | ((with_reducible refine sqc 77 rfl ?_); refine sqv (some 5) func77 (F0.c k a0_0 a0_1 true _ A2.1) fun w8 hb => ?_; replace B0 := sqT B0 hb; replace HB := sqS (sqB1 HB E0) hb; have := sqY2 B0) | ((with_reducible refine sqc 93 rfl ?_); refine sqv (some 13) func93 (F4.c k a0_0 t1 _ A5.1) fun w0 hb => ?_; replace B0 := sqT B0 hb; replace HB := sqS (sqB1 HB E0) hb))
   go_ret
   exact ⟨Z5, sqB1 HB E0⟩
  obtain ⟨t2, A0, H⟩ := sqD H
  obtain ⟨c0, c1, c2, H⟩ := sqJ5 H
  try have c5 : (9223372036854775807 < t2.size + 1) = False := eq_false (Nat.not_lt.2 c0)
  obtain ⟨t3, A1, H⟩ := sqD H
  obtain ⟨c6, c7, c8, H⟩ := sqJ5 H
  try have c9 : (9223372036854775807 < (t2 ++ (⟨#[47]⟩ : ByteArray)).size + t3.size) = False := eq_false (Nat.not_lt.2 c6)
  try have c10 : (9223372036854775807 < t2.size + 1 + t3.size) = False := by (have h_ := c9; (repeat rw [ByteArray.size_append] at h_); exact h_)
  obtain rfl := sqo H
  go_enter func89, ntmps89
  try go_wp2_with (first | ((with_reducible refine sqd 1 rfl ?_); refine sqx0 w (sqB HB) #[.int .i64 a0_0, .int .i64 a0_1] 31 fun g0 w1 B0 E0 HB => ?_; have := sqY2 B0) | ((with_reducible refine sqc 77 rfl ?_); refine sqv (some 5) func77 (F0.c k a0_0 a0_1 true _ A2.1) fun w2 hb => ?_; replace B0 := sqT B0 hb; replace HB := sqS (sqB1 HB E0) hb; have := sqY2 B0))
  replace B0 := sqa (blk_drew B0.1)
  replace HB := sqa (below_drew1 HB.1)
  refine start_ (n := 9) (S := fun w' => w'.cell? ⟨g0, 0, none⟩ = some (.int .i64 a0_0) ∧ w'.cell? ⟨g0, 1, none⟩ = some (.int .i64 a0_1)) (ds := []) #[false, false, false, false, false, false, false, false, false] (by kernel_rfl) rfl rfl (sqk1 B0) (fun hHeld => ?_); refine with_tabW F19.tab5 F19.bits5 (fun HT_ HW_ => ?_)
  generalize w2.drew = w3 at B0 HB hHeld ⊢
  refine sqP 0 (some 14) (h := ?_)
  refine sqP 4 (some 18) (h := ?_)
  refine sqQ 1 (some 15) hHeld (h := ?_)
  refine sqQ 5 (some 19) hHeld (h := ?_)
  refine sq1 2 (some 16) (h := fun K hK => ?_)
  refine sqg func93 #[.int .i64 a0_0] ?_
  with_reducible refine (F4.c k a0_0 t2 _ A0.1).mono ?_
  rintro e w4 ⟨rfl, hb⟩
  refine ⟨_, rfl, ?_⟩
  replace B0 := sqT B0 hb
  replace HB := sqS (sqB1 HB E0) hb
  refine hK.out _ _ (sqk1 B0) (fun hHeld => ?_)
  clear hK K
  refine sqN (some 16) ?_
  refine sqP 3 (some 17) (h := ?_)
  refine sq1 6 (some 20) (h := fun K hK => ?_)
  refine sqg func93 #[.int .i64 a0_1] ?_
  with_reducible refine (F4.c k a0_1 t3 _ A1.1).mono ?_
  rintro e w5 ⟨rfl, hb⟩
  refine ⟨_, rfl, ?_⟩
  replace B0 := sqT B0 hb
  replace HB := sqS (sqB1 HB E0) hb
  refine hK.out _ _ (sqk1 B0) (fun hHeld => ?_)
  clear hK K
  refine sqN (some 20) ?_
  refine sqP 7 (some 21) (h := ?_)
  refine sqP 8 (some 2) (h := ?_)
  refine done_ (done_of HT_.out (by kernel_rfl)) ?_
  try go_wp2
  go_ret
  exact ⟨Z5, sqB1 HB E0⟩
 rw [if_neg sqF] at H
 obtain rfl := sqo H
 go_enter func89, ntmps89
 go_wp2_with (first | ((with_reducible refine sqd 1 rfl ?_); refine sqx0 w (sqB HB) #[.int .i64 a0_0, .int .i64 a0_1] 31 fun g0 w7 B0 E0 HB => ?_; have := sqY2 B0) | ((with_reducible refine sqc 77 rfl ?_); refine sqv (some 5) func77 (F0.c k a0_0 a0_1 false _ A2.1) fun w9 hb => ?_; replace B0 := sqT B0 hb; replace HB := sqS (sqB1 HB E0) hb))
 go_ret
 exact ⟨Z5, sqB1 HB E0⟩

def F21.l0 : Nat → ByteArray → Int → List ByteArray → Int → Int → Option (List ByteArray)
 | 0, _, _, _, _, _ => none
 | k + 1, x0, x1, x5, x6, x7 => if x7 < (x0.size : Int) then (if 0 ≤ x7 then (if (bt x0 x7) = x1 then (if 0 ≤ x6 then (if x6 ≤ x7 then (if x7 ≤ (x0.size : Int) then (if x5.length < 8796093022208 then (F21.l0 k x0 x1 (x5 ++ [x0.extract (x6 : Int).toNat (x7 : Int).toNat]) (wrap64 (x7 + 1)) (wrap64 (x7 + 1))) else (none)) else (none)) else (none)) else (none)) else (F21.l0 k x0 x1 x5 x6 (wrap64 (x7 + 1)))) else (none)) else (if 0 ≤ x6 then (if x6 ≤ (x0.size : Int) then (if x5.length < 8796093022208 then (some (x5 ++ [x0.extract (x6 : Int).toNat x0.size])) else (none)) else (none)) else (none))
def F21.f (k : Nat) (a0 : ByteArray) (a1 : Int) : Option (List ByteArray) := F21.l0 k a0 a1 (([] : List ByteArray)) 0 0
theorem F21.c (k : Nat) (a0 : ByteArray) (a1 : Int) (r : List ByteArray) (w : World) (H : F21.f k a0 a1 = some r) :
  Calls prog 99 #[.string a0, .int .u8 a1] w fun e w' => ∃ v0_ : Value, e = .returned (v0_) ∧ Kd.R Kd.string 9 w' w.heap.size (fun _ => True) v0_ r ∧ Below w.heap.size w w' := by
 have HB := sqh w
 unfold F21.f at H
 obtain ⟨y0, hy0⟩ : ∃ y_ : List ByteArray, y_ = (([] : List ByteArray)) := ⟨_, rfl⟩
 replace H : (F21.l0 k a0 a1 y0 0 0) = some r := sqW hy0 H
 have Ny0 := sqa hy0
 clear hy0
 have H' := sqa H
 clear H
 go_enter func99, ntmps99
 go_wp2_with (first | ((with_reducible refine sqd 8 rfl ?_); refine Kd.R_lit Kd.string _ 9 ?hg (N := 8) ?hd (xs := ([] : List ByteArray)) (inner := []) (ok := fun _ => True) (okp := fun _ => True) ?hr ?hp (fun _ hk => hk) trivial (Below.refl _ _) (Nat.le_refl _) (by simp) ?_; (case hd => rfl); (case hg => rfl); (case hr => exact Z17); (case hp => exact Z24); intro v0 w3 ho4 hb hg_ hnew_; clear hg_ hnew_; (first | rw [← Ny0.out] at ho4 | (simp only [Int.reduceToNat] at ho4; rw [← Ny0.out] at ho4)); have O0 := sqL ho4 (sqB HB); replace HB := sqS (sqB HB) hb; clear hb ho4))
 go_loopg [5, 6, 7] k (fun kq v5 v6 v7 w' => ∃ (x5_1 : List ByteArray) (x6_1 : Int) (x7_1 : Int), v6 = .int .i64 x6_1 ∧ v7 = .int .i64 x7_1 ∧ Aside0 (F21.l0 kq a0 a1 x5_1 x6_1 x7_1 = some r) ∧ Aside0 (kq ≤ k) ∧ Aside0 (Kd.R Kd.string 9 w' w.heap.size (fun _ => True) v5 x5_1) ∧ Aside0 (Below w.heap.size w w'))
 case atStart => exact ⟨(y0), (0), (0), Z1, Z1, H', ⟨Nat.le_refl _⟩, ⟨sqR O0⟩, ⟨sqB HB⟩⟩
 case round =>
  clear H'
  obtain ⟨x5_1, x6_1, x7_1, rfl, rfl, HA, HK1, O1, HB⟩ := hrel
  cases gk with
  | zero => exact absurd HA.out (by simp [F21.l0])
  | succ k1 =>
   have H := HA.out
   clear HA
   simp only [F21.l0] at H
   obtain ⟨c5b0, H⟩ | ⟨c5b0, H⟩ := sqi3 H
   ·obtain ⟨c6b0, H⟩ := sqJ2 H
    obtain ⟨c8b0, c8b1, H⟩ | ⟨c8b0, c8b1, c8, H⟩ := sqi4 H
    ·obtain ⟨c9b0, c9b1, H⟩ := sqJ3 H
     obtain ⟨c0, c1, H⟩ := sqJ3 H
     obtain ⟨c3, c4, H⟩ := sqJ3 H
     obtain ⟨c7, H⟩ := sqI H
     have LMc0 := sqa c7
     clear c7
     obtain ⟨y1, hy1⟩ : ∃ y_ : List ByteArray, y_ = (x5_1 ++ [a0.extract (x6_1 : Int).toNat (x7_1 : Int).toNat]) := ⟨_, rfl⟩
     replace H : (F21.l0 k1 a0 a1 y1 (wrap64 (x7_1 + 1)) (wrap64 (x7_1 + 1))) = some r := sqW hy1 H
     have Ny1 := sqa hy1
     clear hy1
     have H' := sqa H
     clear H
     have p7 : 0 ≤ (x7_1 : Int) := of_decide_eq_true Z16
     have q7 : x7_1 < (a0.size : Int) := of_decide_eq_true Z16
     have hx7 := bt_at a0 x7_1
     replace p7 := eq_true p7
     replace q7 := eq_true q7
     go_wp2_with (first | ((with_reducible refine gate_builtin (b := .append) (xs := #[.tmp 20, .tmp 25]) rfl ?_); at_builtin; refine Kd.R_append Kd.string (w0 := w) w.heap.size rfl (.tmp 20) (.tmp 25) 73 9 (.string ⟨#[]⟩) 16 rfl underlying73 info9 rfl (by decide) (by omega) u5 x5_1 (a0.extract (x6_1 : Int).toNat (x7_1 : Int).toNat) [.string (a0.extract (x6_1 : Int).toNat (x7_1 : Int).toNat)] (fun _ => True) (fun _ => False) rfl rfl ?aP (fun _ hk => hk.elim) ?aF ?aO ?aB ?aS ?aL ?_; (case aP => exact rfl); (case aB => exact (sqB HB)); (case aF => exact Z25); (case aO => exact (sqR O1)); (case aS => exact (below_size (sqB HB))); (case aL => exact Z2 LMc0); intro v1 w1 ho hb hg hat; rw [← Ny1.out] at ho; replace HB := sqa (hb); have O2 := sqa (ho); clear O1; clear ho hb hg hat))
     go_roundg k1
     case measure => have := HK1.out; omega
     case rel => exact ⟨(y1), (wrap64 (x7_1 + 1)), (wrap64 (x7_1 + 1)), Z1, Z1, H', ⟨Z2 HK1⟩, ⟨sqR O2⟩, ⟨sqB HB⟩⟩
    have H' := sqa H
    clear H
    have p7 : 0 ≤ (x7_1 : Int) := of_decide_eq_true Z16
    have q7 : x7_1 < (a0.size : Int) := of_decide_eq_true Z16
    have hx7 := bt_at a0 x7_1
    replace p7 := eq_true p7
    replace q7 := eq_true q7
    go_wp2
    go_roundg k1
    case measure => have := HK1.out; omega
    case rel => exact ⟨(x5_1), (x6_1), (wrap64 (x7_1 + 1)), Z1, Z1, H', ⟨Z2 HK1⟩, ⟨sqR O1⟩, ⟨sqB HB⟩⟩
   obtain ⟨c17, c18, H⟩ := sqJ3 H
   obtain ⟨c20, c21, H⟩ := sqJ3 H
   obtain ⟨c16, H⟩ := sqI H
   have LMc1 := sqa c16
   clear c16
   obtain ⟨y2, hy2⟩ : ∃ y_ : List ByteArray, y_ = (x5_1 ++ [a0.extract (x6_1 : Int).toNat a0.size]) := ⟨_, rfl⟩
   replace H : (some y2) = some r := sqW hy2 H
   have Ny2 := sqa hy2
   clear hy2
   obtain rfl := sqo H
   go_wp2_with (first | ((with_reducible refine gate_builtin (b := .append) (xs := #[.tmp 29, .tmp 33]) rfl ?_); at_builtin; refine Kd.R_append Kd.string (w0 := w) w.heap.size rfl (.tmp 29) (.tmp 33) 73 9 (.string ⟨#[]⟩) 16 rfl underlying73 info9 rfl (by decide) (by omega) u5 x5_1 (a0.extract (x6_1 : Int).toNat a0.size) [.string (a0.extract (x6_1 : Int).toNat a0.size)] (fun _ => True) (fun _ => False) rfl rfl ?aP (fun _ hk => hk.elim) ?aF ?aO ?aB ?aS ?aL ?_; (case aP => exact rfl); (case aB => exact (sqB HB)); (case aF => exact Z25); (case aO => exact (sqR O1)); (case aS => exact (below_size (sqB HB))); (case aL => exact Z2 LMc1); intro v2 w2 ho hb hg hat; rw [← Ny2.out] at ho; replace HB := sqa (hb); have O3 := sqa (ho); clear O1; clear ho hb hg hat))
   go_ret
   exact ⟨_, Z5, Z26 O3, sqB HB⟩

end Go.Proofs.YtofmlbgfcohhoaaGreatDoor.PFnDeskSay
