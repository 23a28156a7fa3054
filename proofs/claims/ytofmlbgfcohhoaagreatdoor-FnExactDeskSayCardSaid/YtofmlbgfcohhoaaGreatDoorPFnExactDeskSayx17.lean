import Derived.Test.YtofmlbgfcohhoaaGreatDoorPFnExactDeskSayx16
set_option maxHeartbeats 8000000
set_option maxRecDepth 100000
namespace Go.Proofs.YtofmlbgfcohhoaaGreatDoor.PFnExactDeskSay
open Go.RowKit Go.Proofs.YtofmlbgfcohhoaaGreatDoorW.PrintWords Go.Proofs.YtofmlbgfcohhoaaGreatDoorW.PrintLast Go.Proofs.YtofmlbgfcohhoaaGreatDoorW.PrintMore Go.Proofs.YtofmlbgfcohhoaaGreatDoor.Lib Go.Proofs.Tryz
attribute [local go_sem] max2_int min2_int max_two min_two max_three min_three max_four min_four   -- for this text's walks alone
set_option linter.unusedVariables false
set_option linter.unusedSimpArgs false

/-! ### impl_lowest: function 120 -/
def impl_lowest.f (k : Nat) (a0 : Int) (a1 : Int) : Option (Int × Int) := (impl_gcd.f k a0 a1).bind fun t501 => (if a1 < 0 then (if (wrap64 (-t501)) = 0 then (none) else (some (wrap64 (Int.tdiv a0 (wrap64 (-t501))), wrap64 (Int.tdiv a1 (wrap64 (-t501)))))) else (if a1 = 0 then (if a0 < 0 then (if (wrap64 (-t501)) = 0 then (none) else (some (wrap64 (Int.tdiv a0 (wrap64 (-t501))), wrap64 (Int.tdiv a1 (wrap64 (-t501)))))) else (if t501 = 0 then (none) else (some (wrap64 (Int.tdiv a0 t501), wrap64 (Int.tdiv a1 t501))))) else (if t501 = 0 then (none) else (some (wrap64 (Int.tdiv a0 t501), wrap64 (Int.tdiv a1 t501))))))
theorem impl_lowest.mono : ∀ a0 a1 k, LeO (impl_lowest.f k a0 a1) (impl_lowest.f (k + 1) a0 a1) := by
 intro a0 a1 k
 unfold impl_lowest.f
 repeat' (with_reducible first | exact impl_gcd.mono _ _ _ | exact LeO.refl _ | exact LeO.none _ | refine LeO.ite ?_ ?_ | refine LeO.bind ?_ fun _ => ?_)
def impl_lowest.T4 : Bool × List (List Nat × List Nat) := (true, [([], []), ([], []), ([0, 1], [0, 1]), ([], []), ([], []), ([3, 4], [3, 4]), ([2, 5], [2, 5]), ([6, 0, 1, 2, 3, 4, 5, 6], [6])])
def impl_lowest.B4 : List Nat := [0, 0, 3, 0, 0, 24, 63, 127]
theorem impl_lowest.tab4 : rtab .any (opsOf f120 4) = impl_lowest.T4 := by kernel_rfl
theorem impl_lowest.bits4 : waitsOk impl_lowest.T4.2 impl_lowest.B4 = true := by kernel_rfl
theorem impl_lowest.calls (k : Nat) (a0 : Int) (a1 : Int) (r1 : Int) (r2 : Int) (w : World) (H : impl_lowest.f k a0 a1 = some (r1, r2)) :
  Calls prog 120 #[.int .i64 a0, .int .i64 a1] w fun e w' => e = .returned (.agg #[.int .i64 r1, .int .i64 r2]) ∧ Below w.heap.size w w' := by
 have hu31 := underlying31
 have HB := sqh w
 unfold impl_lowest.f at H
 obtain ⟨t501, A3, H⟩ := sqD H
 by_cases c4 : a1 < 0
 ·rw [if_pos c4] at H
  have c4b0 : decide (a1 < 0) = true := decide_eq_true c4
  clear c4
  by_cases c5 : (wrap64 (-t501)) = 0
  ·rw [if_pos c5] at H
   exact absurd H (by simp)
  rw [if_neg c5] at H
  have c5b0 : ((wrap64 (-t501)) == 0) = false := sqe0 c5
  have c5b1 : ((wrap64 (-t501)) != 0) = true := sqn1 c5
  obtain ⟨rfl, rfl⟩ := sqO2 H
  go_enter func120, ntmps120
  try go_wp2_with (first | ((with_reducible refine sqd 4 rfl ?_); refine sqBx w (sqB HB) (cs := #[.int .i64 0, .int .i64 0]) (t := 31) ?_; intro g0 hg w6 B0 E0 HB hb; clear hb hg) | ((with_reducible refine sqc 117 rfl ?_); refine sqC (some 8) func117 #[.int .i64 a0, .int .i64 a1] ?_; (with_reducible refine (impl_gcd.calls k a0 a1 t501 _ A3.1).mono ?_); refine sqV fun w7 hb => ?_; replace B0 := sqT B0 hb; replace HB := sqS (sqB1 HB E0) hb; (try clear hb)))
  replace B0 := sqa (blk_drew B0.1)
  replace HB := sqa (below_drew1 HB.1)
  refine start_ (n := 8) (S := fun w' => True) (ds := []) #[false, false, false, false, false, false, false, false] (by kernel_rfl) rfl rfl trivial (fun hHeld => ?_); refine with_tabW impl_lowest.tab4 impl_lowest.bits4 (fun HT_ HW_ => ?_)
  generalize w7.drew = w8 at B0 HB hHeld ⊢
  refine sqP 0 (some 21) (h := ?_)
  refine sqP 1 (some 22) (h := ?_)
  refine sqP 2 (some 23) (h := ?_)
  refine sqP 3 (some 24) (h := ?_)
  refine sqP 4 (some 25) (h := ?_)
  refine sqP 5 (some 26) (h := ?_)
  refine sqP 6 (some 27) (h := ?_)
  refine one_ (i := 7) (N := none) #[true, true, true, true, true, true, true, true] rfl rfl (one_of HT_.out (by kernel_rfl)) (by decide) (fun K hK => ?_)
  have hs9 : w8.cell? ⟨g0, 0, none⟩ = some (.int .i64 0) := (blk_cell B0.1 0).trans rfl
  have hfs9 := blk_frozen B0.1 0
  have hs10 : w8.cell? ⟨g0, 1, none⟩ = some (.int .i64 0) := (blk_cell B0.1 1).trans rfl
  have hfs10 := blk_frozen B0.1 1
  refine skip_ (w1 := ?_) (by rfl) rfl ?_ ?_
  rotate_left
  ·go_simp
   rfl
  refine hK.out _ _ trivial (fun hHeld => ?_)
  clear hK K
  refine done_ (done_of HT_.out (by kernel_rfl)) ?_
  try go_wp2
  refine bodyPost_ret (results_cell_row rfl _ _ g0 31 #[.int .i64 (wrap64 (Int.tdiv a0 (wrap64 (-t501)))), .int .i64 (wrap64 (Int.tdiv a1 (wrap64 (-t501))))] (0, 0) _ rfl (Z105 B0) underlying31 rfl (by kernel_rfl)) rfl ?_
  exact ⟨Z16, sqB1 HB E0⟩
 rw [if_neg c4] at H
 have c4b0 : decide (a1 < 0) = false := decide_eq_false c4
 clear c4
 by_cases c11 : a1 = 0
 ·rw [if_pos c11] at H
  have c11b0 : (a1 == 0) = true := sqe1 c11
  have c11b1 : (a1 != 0) = false := sqn0 c11
  clear c11
  by_cases c12 : a0 < 0
  ·rw [if_pos c12] at H
   have c12b0 : decide (a0 < 0) = true := decide_eq_true c12
   clear c12
   by_cases c13 : (wrap64 (-t501)) = 0
   ·rw [if_pos c13] at H
    exact absurd H (by simp)
   rw [if_neg c13] at H
   have c13b0 : ((wrap64 (-t501)) == 0) = false := sqe0 c13
   have c13b1 : ((wrap64 (-t501)) != 0) = true := sqn1 c13
   obtain ⟨rfl, rfl⟩ := sqO2 H
   go_enter func120, ntmps120
   try go_wp2_with (first | ((with_reducible refine sqd 4 rfl ?_); refine sqBx w (sqB HB) (cs := #[.int .i64 0, .int .i64 0]) (t := 31) ?_; intro g0 hg w14 B0 E0 HB hb; clear hb hg) | ((with_reducible refine sqc 117 rfl ?_); refine sqC (some 8) func117 #[.int .i64 a0, .int .i64 a1] ?_; (with_reducible refine (impl_gcd.calls k a0 a1 t501 _ A3.1).mono ?_); refine sqV fun w15 hb => ?_; replace B0 := sqT B0 hb; replace HB := sqS (sqB1 HB E0) hb; (try clear hb)))
   replace B0 := sqa (blk_drew B0.1)
   replace HB := sqa (below_drew1 HB.1)
   refine start_ (n := 8) (S := fun w' => True) (ds := []) #[false, false, false, false, false, false, false, false] (by kernel_rfl) rfl rfl trivial (fun hHeld => ?_); refine with_tabW impl_lowest.tab4 impl_lowest.bits4 (fun HT_ HW_ => ?_)
   generalize w15.drew = w16 at B0 HB hHeld ⊢
   refine sqP 0 (some 21) (h := ?_)
   refine sqP 1 (some 22) (h := ?_)
   refine sqP 2 (some 23) (h := ?_)
   refine sqP 3 (some 24) (h := ?_)
   refine sqP 4 (some 25) (h := ?_)
   refine sqP 5 (some 26) (h := ?_)
   refine sqP 6 (some 27) (h := ?_)
   refine one_ (i := 7) (N := none) #[true, true, true, true, true, true, true, true] rfl rfl (one_of HT_.out (by kernel_rfl)) (by decide) (fun K hK => ?_)
   have hs17 : w16.cell? ⟨g0, 0, none⟩ = some (.int .i64 0) := (blk_cell B0.1 0).trans rfl
   have hfs17 := blk_frozen B0.1 0
   have hs18 : w16.cell? ⟨g0, 1, none⟩ = some (.int .i64 0) := (blk_cell B0.1 1).trans rfl
   have hfs18 := blk_frozen B0.1 1
   refine skip_ (w1 := ?_) (by rfl) rfl ?_ ?_
   rotate_left
   ·go_simp
    rfl
   refine hK.out _ _ trivial (fun hHeld => ?_)
   clear hK K
   refine done_ (done_of HT_.out (by kernel_rfl)) ?_
   try go_wp2
   refine bodyPost_ret (results_cell_row rfl _ _ g0 31 #[.int .i64 (wrap64 (Int.tdiv a0 (wrap64 (-t501)))), .int .i64 (wrap64 (Int.tdiv a1 (wrap64 (-t501))))] (0, 0) _ rfl (Z105 B0) underlying31 rfl (by kernel_rfl)) rfl ?_
   exact ⟨Z16, sqB1 HB E0⟩
  rw [if_neg c12] at H
  have c12b0 : decide (a0 < 0) = false := decide_eq_false c12
  clear c12
  by_cases c19 : t501 = 0
  ·rw [if_pos c19] at H
   exact absurd H (by simp)
  rw [if_neg c19] at H
  have c19b0 : (t501 == 0) = false := sqe0 c19
  have c19b1 : (t501 != 0) = true := sqn1 c19
  obtain ⟨rfl, rfl⟩ := sqO2 H
  go_enter func120, ntmps120
  try go_wp2_with (first | ((with_reducible refine sqd 4 rfl ?_); refine sqBx w (sqB HB) (cs := #[.int .i64 0, .int .i64 0]) (t := 31) ?_; intro g0 hg w20 B0 E0 HB hb; clear hb hg) | ((with_reducible refine sqc 117 rfl ?_); refine sqC (some 8) func117 #[.int .i64 a0, .int .i64 a1] ?_; (with_reducible refine (impl_gcd.calls k a0 a1 t501 _ A3.1).mono ?_); refine sqV fun w21 hb => ?_; replace B0 := sqT B0 hb; replace HB := sqS (sqB1 HB E0) hb; (try clear hb)))
  replace B0 := sqa (blk_drew B0.1)
  replace HB := sqa (below_drew1 HB.1)
  refine start_ (n := 8) (S := fun w' => True) (ds := []) #[false, false, false, false, false, false, false, false] (by kernel_rfl) rfl rfl trivial (fun hHeld => ?_); refine with_tabW impl_lowest.tab4 impl_lowest.bits4 (fun HT_ HW_ => ?_)
  generalize w21.drew = w22 at B0 HB hHeld ⊢
  refine sqP 0 (some 21) (h := ?_)
  refine sqP 1 (some 22) (h := ?_)
  refine sqP 2 (some 23) (h := ?_)
  refine sqP 3 (some 24) (h := ?_)
  refine sqP 4 (some 25) (h := ?_)
  refine sqP 5 (some 26) (h := ?_)
  refine sqP 6 (some 27) (h := ?_)
  refine one_ (i := 7) (N := none) #[true, true, true, true, true, true, true, true] rfl rfl (one_of HT_.out (by kernel_rfl)) (by decide) (fun K hK => ?_)
  have hs23 : w22.cell? ⟨g0, 0, none⟩ = some (.int .i64 0) := (blk_cell B0.1 0).trans rfl
  have hfs23 := blk_frozen B0.1 0
  have hs24 : w22.cell? ⟨g0, 1, none⟩ = some (.int .i64 0) := (blk_cell B0.1 1).trans rfl
  have hfs24 := blk_frozen B0.1 1
  refine skip_ (w1 := ?_) (by rfl) rfl ?_ ?_
  rotate_left
  ·go_simp
   rfl
  refine hK.out _ _ trivial (fun hHeld => ?_)
  clear hK K
  refine done_ (done_of HT_.out (by kernel_rfl)) ?_
  try go_wp2
  refine bodyPost_ret (results_cell_row rfl _ _ g0 31 #[.int .i64 (wrap64 (Int.tdiv a0 t501)), .int .i64 (wrap64 (Int.tdiv a1 t501))] (0, 0) _ rfl (Z106 B0) underlying31 rfl (by kernel_rfl)) rfl ?_
  exact ⟨Z16, sqB1 HB E0⟩
 rw [if_neg c11] at H
 have c11b0 : (a1 == 0) = false := sqe0 c11
 have c11b1 : (a1 != 0) = true := sqn1 c11
 by_cases c25 : t501 = 0
 ·rw [if_pos c25] at H
  exact absurd H (by simp)
 rw [if_neg c25] at H
 have c25b0 : (t501 == 0) = false := sqe0 c25
 have c25b1 : (t501 != 0) = true := sqn1 c25
 obtain ⟨rfl, rfl⟩ := sqO2 H
 go_enter func120, ntmps120
 try go_wp2_with (first | ((with_reducible refine sqd 4 rfl ?_); refine sqBx w (sqB HB) (cs := #[.int .i64 0, .int .i64 0]) (t := 31) ?_; intro g0 hg w26 B0 E0 HB hb; clear hb hg) | ((with_reducible refine sqc 117 rfl ?_); refine sqC (some 8) func117 #[.int .i64 a0, .int .i64 a1] ?_; (with_reducible refine (impl_gcd.calls k a0 a1 t501 _ A3.1).mono ?_); refine sqV fun w27 hb => ?_; replace B0 := sqT B0 hb; replace HB := sqS (sqB1 HB E0) hb; (try clear hb)))
 replace B0 := sqa (blk_drew B0.1)
 replace HB := sqa (below_drew1 HB.1)
 refine start_ (n := 8) (S := fun w' => True) (ds := []) #[false, false, false, false, false, false, false, false] (by kernel_rfl) rfl rfl trivial (fun hHeld => ?_); refine with_tabW impl_lowest.tab4 impl_lowest.bits4 (fun HT_ HW_ => ?_)
 generalize w27.drew = w28 at B0 HB hHeld ⊢
 refine sqP 0 (some 21) (h := ?_)
 refine sqP 1 (some 22) (h := ?_)
 refine sqP 2 (some 23) (h := ?_)
 refine sqP 3 (some 24) (h := ?_)
 refine sqP 4 (some 25) (h := ?_)
 refine sqP 5 (some 26) (h := ?_)
 refine sqP 6 (some 27) (h := ?_)
 refine one_ (i := 7) (N := none) #[true, true, true, true, true, true, true, true] rfl rfl (one_of HT_.out (by kernel_rfl)) (by decide) (fun K hK => ?_)
 have hs29 : w28.cell? ⟨g0, 0, none⟩ = some (.int .i64 0) := (blk_cell B0.1 0).trans rfl
 have hfs29 := blk_frozen B0.1 0
 have hs30 : w28.cell? ⟨g0, 1, none⟩ = some (.int .i64 0) := (blk_cell B0.1 1).trans rfl
 have hfs30 := blk_frozen B0.1 1
 refine skip_ (w1 := ?_) (by rfl) rfl ?_ ?_
 rotate_left
 ·go_simp
  rfl
 refine hK.out _ _ trivial (fun hHeld => ?_)
 clear hK K
 refine done_ (done_of HT_.out (by kernel_rfl)) ?_
 try go_wp2
 refine bodyPost_ret (results_cell_row rfl _ _ g0 31 #[.int .i64 (wrap64 (Int.tdiv a0 t501)), .int .i64 (wrap64 (Int.tdiv a1 t501))] (0, 0) _ rfl (Z106 B0) underlying31 rfl (by kernel_rfl)) rfl ?_
 exact ⟨Z16, sqB1 HB E0⟩

/-! ### impl_danced: function 72 -/
def impl_danced.l0 : Nat → ByteArray → Int → Int → Int → Int → Option (Int × Int × Bool)
 | 0, _, _, _, _, _ => none
 | k + 1, x1, x9, x10, x0, x2 => if x10 < x9 then (if 0 ≤ x10 then (if x10 < (x1.size : Int) then (if (bt x1 x10) = 84 then ((impl_plus.f k x0 x2 1).bind fun bt0 => (if bt0.2.2 = true then (impl_danced.l0 k x1 x9 (wrap64 (x10 + 1)) bt0.1 bt0.2.1) else (some (0, 0, false)))) else (if (bt x1 x10) = 116 then ((impl_plus.f k x0 x2 (-1)).bind fun bt1 => (if bt1.2.2 = true then (impl_danced.l0 k x1 x9 (wrap64 (x10 + 1)) bt1.1 bt1.2.1) else (some (0, 0, false)))) else ((impl_lowest.f k (wrap64 (-x2)) x0).bind fun bt2 => (impl_danced.l0 k x1 x9 (wrap64 (x10 + 1)) bt2.1 bt2.2)))) else (none)) else (none)) else (some (x0, x2, true))
def impl_danced.f (k : Nat) (a0_0 : Int) (a0_1 : Int) (a1 : ByteArray) : Option (Int × Int × Bool) := impl_danced.l0 k a1 (a1.size : Int) 0 a0_0 a0_1
abbrev impl_danced.M (k : Nat) : Prop := (∀ y0 y1 y2 y3 y4, LeO (impl_danced.l0 k y0 y1 y2 y3 y4) (impl_danced.l0 (k + 1) y0 y1 y2 y3 y4))
theorem impl_danced.mono_t : ∀ k, impl_danced.M k → impl_danced.M (k + 1) ∧ ∀ a0 a1 a2, LeO (impl_danced.f k a0 a1 a2) (impl_danced.f (k + 1) a0 a1 a2) := by
  rintro k ih0
  refine ⟨?_, ?_⟩ <;> (try unfold impl_danced.M) <;> intros <;> (first | unfold impl_danced.l0 | unfold impl_danced.f) <;> repeat' (with_reducible first | exact ih0 _ _ _ _ _ | exact impl_lowest.mono _ _ _ | exact impl_plus.mono _ _ _ _ | exact LeO.refl _ | exact LeO.none _ | refine LeO.ite ?_ ?_ | refine LeO.bind ?_ fun _ => ?_)
theorem impl_danced.mono_l : ∀ k, impl_danced.M k
 | 0 => fun _ _ _ _ _ r h => by simp [impl_danced.l0] at h
 | k + 1 => (impl_danced.mono_t k (impl_danced.mono_l k)).1
theorem impl_danced.mono a0 a1 a2 k : LeO (impl_danced.f k a0 a1 a2) (impl_danced.f (k + 1) a0 a1 a2) := (impl_danced.mono_t k (impl_danced.mono_l k)).2 a0 a1 a2
theorem impl_danced.calls (k : Nat) (a0_0 : Int) (a0_1 : Int) (a1 : ByteArray) (r1 : Int) (r2 : Int) (r3 : Bool) (w : World) (H : impl_danced.f k a0_0 a0_1 a1 = some (r1, r2, r3)) :
  Calls prog 72 #[.agg #[.int .i64 a0_0, .int .i64 a0_1], .string a1] w fun e w' => e = .returned (.tuple #[.agg #[.int .i64 r1, .int .i64 r2], .bool r3]) ∧ Below w.heap.size w w' := by
 have hu31 := underlying31
 have HB := sqh w
 unfold impl_danced.f at H
 have H' := sqa H
 clear H
 go_enter func72, ntmps72
 go_wp2_with (first | ((with_reducible refine sqd 2 rfl ?_); refine sqBx w (sqB HB) (cs := #[.int .i64 a0_0, .int .i64 a0_1]) (t := 31) ?_; intro g0 hg w3 B0 E0 HB hb; clear hb hg) | ((with_reducible refine sqd 4 rfl ?_); refine sqBx w (sqB1 HB E0) (cs := #[.int .i64 0, .int .i64 0]) (t := 31) ?_; intro g1 hg w4 B2 E1 HB hb; obtain ⟨N0, N1⟩ := sqM hg B0; replace B0 := sqT B0 hb; clear hb hg))
 go_loopg [10] k (fun kq v10 w' => ∃ (x10_1 : Int) (x0 : Int) (x1 : Int) (x504000_1 : Int) (x504001_1 : Int), v10 = .int .i64 x10_1 ∧ Aside0 (impl_danced.l0 kq a1 (a1.size : Int) x10_1 x0 x1 = some (r1, r2, r3)) ∧ Aside0 (kq ≤ k) ∧ Aside0 (w'.heap[g0]? = some (.cells #[.int .i64 x0, .int .i64 x1] 31 (0, 0))) ∧ Aside0 (w'.heap[g1]? = some (.cells #[.int .i64 x504000_1, .int .i64 x504001_1] 31 (0, 0))) ∧ Aside0 (Below w.heap.size w w'))
 case atStart => exact ⟨(0), (a0_0), (a0_1), (0), (0), Z4, H', ⟨Nat.le_refl _⟩, ⟨sqK B0⟩, ⟨sqK B2⟩, ⟨sqB2 HB E0 E1⟩⟩
 case round =>
  clear H'
  obtain ⟨x10_1, x0, x1, x504000_1, x504001_1, rfl, HA, HK1, B0, B2, HB⟩ := hrel
  cases gk with
  | zero => exact absurd HA.out (by simp [impl_danced.l0])
  | succ k1 =>
   have H := HA.out
   clear HA
   simp only [impl_danced.l0] at H
   by_cases c5 : x10_1 < (a1.size : Int)
   ·rw [if_pos c5] at H
    have c5b0 : decide (x10_1 < (a1.size : Int)) = true := decide_eq_true c5
    clear c5
    obtain ⟨c6, H⟩ := sqI H
    have c6b0 : decide (0 ≤ x10_1) = true := decide_eq_true c6
    clear c6
    obtain ⟨c7, H⟩ := sqI H
    have c7b0 : decide (x10_1 < (a1.size : Int)) = true := decide_eq_true c7
    clear c7
    by_cases c9 : (bt a1 x10_1) = 84
    ·rw [if_pos c9] at H
     have c9b0 : ((bt a1 x10_1) == 84) = true := sqe1 c9
     have c9b1 : ((bt a1 x10_1) != 84) = false := sqn0 c9
     clear c9
     obtain ⟨⟨t0, t1, t2⟩, A10, H⟩ := sqD H
     try dsimp only at H
     by_cases c11 : t2 = true
     ·subst c11
      rw [if_pos rfl] at H
      have H' := sqa H
      clear H
      have p8 : 0 ≤ (x10_1 : Int) := of_decide_eq_true Z9
      have q8 : x10_1 < (a1.size : Int) := of_decide_eq_true Z9
      have hx8 := bt_at a1 x10_1
      replace p8 := eq_true p8
      replace q8 := eq_true q8
      have := N0.1
      have := N1.1
      obtain ⟨_, _, _, _⟩ := sqY2 B0
      go_wp2_with (first | ((with_reducible refine sqc 119 rfl ?_); refine sqC (some 26) func119 #[.agg #[.int .i64 x0, .int .i64 x1], .int .i64 1] ?_; (with_reducible refine (impl_plus.calls k1 x0 x1 1 t0 t1 true _ A10.1).mono ?_); refine sqV fun w14 hb => ?_; replace B0 := sqT B0 hb; replace B2 := sqT B2 hb; replace HB := sqS (sqB2 HB E0 E1) hb; (try clear hb); obtain ⟨_, _, _, _⟩ := sqY2 B0))
      go_roundg k1
      case measure => have := HK1.out; omega
      case rel => exact ⟨(wrap64 (x10_1 + 1)), (t0), (t1), (x504000_1), (x504001_1), Z4, H', ⟨Z17 HK1⟩, ⟨by refine sqPut (cs := #[.int .i64 t0, .int .i64 x1]) ?_ 1; refine sqPut (cs := #[.int .i64 x0, .int .i64 x1]) ?_ 0; exact sqK B0⟩, ⟨Z11 N1 B2⟩, ⟨sqB2 HB E0 E1⟩⟩
     obtain rfl := sqb c11
     rw [if_neg sqF] at H
     obtain ⟨rfl, rfl, rfl⟩ := sqO3 H
     have p8 : 0 ≤ (x10_1 : Int) := of_decide_eq_true Z9
     have q8 : x10_1 < (a1.size : Int) := of_decide_eq_true Z9
     have hx8 := bt_at a1 x10_1
     replace p8 := eq_true p8
     replace q8 := eq_true q8
     have := N0.1
     have := N1.1
     obtain ⟨_, _, _, _⟩ := sqY2 B0
     go_wp2_with (first | ((with_reducible refine sqc 119 rfl ?_); refine sqC (some 26) func119 #[.agg #[.int .i64 x0, .int .i64 x1], .int .i64 1] ?_; (with_reducible refine (impl_plus.calls k1 x0 x1 1 t0 t1 false _ A10.1).mono ?_); refine sqV fun w18 hb => ?_; replace B0 := sqT B0 hb; replace B2 := sqT B2 hb; replace HB := sqS (sqB2 HB E0 E1) hb; (try clear hb); obtain ⟨_, _, _, _⟩ := sqY2 B0; obtain ⟨_, _, _, _⟩ := sqY2 B2))
     refine sqE g1 31 #[.int .i64 0, .int .i64 0] (Z107 N1 B2) underlying31 ?_
     exact ⟨Z16, sqB2 HB E0 E1⟩
    rw [if_neg c9] at H
    have c9b0 : ((bt a1 x10_1) == 84) = false := sqe0 c9
    have c9b1 : ((bt a1 x10_1) != 84) = true := sqn1 c9
    by_cases c21 : (bt a1 x10_1) = 116
    ·rw [if_pos c21] at H
     have c21b0 : ((bt a1 x10_1) == 116) = true := sqe1 c21
     have c21b1 : ((bt a1 x10_1) != 116) = false := sqn0 c21
     clear c21
     obtain ⟨⟨t3, t4, t5⟩, A22, H⟩ := sqD H
     try dsimp only at H
     by_cases c23 : t5 = true
     ·subst c23
      rw [if_pos rfl] at H
      have H' := sqa H
      clear H
      have p8 : 0 ≤ (x10_1 : Int) := of_decide_eq_true Z9
      have q8 : x10_1 < (a1.size : Int) := of_decide_eq_true Z9
      have hx8 := bt_at a1 x10_1
      replace p8 := eq_true p8
      replace q8 := eq_true q8
      have := N0.1
      have := N1.1
      obtain ⟨_, _, _, _⟩ := sqY2 B0
      go_wp2_with (first | ((with_reducible refine sqc 119 rfl ?_); refine sqC (some 33) func119 #[.agg #[.int .i64 x0, .int .i64 x1], .int .i64 (-1)] ?_; (with_reducible refine (impl_plus.calls k1 x0 x1 (-1) t3 t4 true _ A22.1).mono ?_); refine sqV fun w26 hb => ?_; replace B0 := sqT B0 hb; replace B2 := sqT B2 hb; replace HB := sqS (sqB2 HB E0 E1) hb; (try clear hb); obtain ⟨_, _, _, _⟩ := sqY2 B0))
      go_roundg k1
      case measure => have := HK1.out; omega
      case rel => exact ⟨(wrap64 (x10_1 + 1)), (t3), (t4), (x504000_1), (x504001_1), Z4, H', ⟨Z17 HK1⟩, ⟨by refine sqPut (cs := #[.int .i64 t3, .int .i64 x1]) ?_ 1; refine sqPut (cs := #[.int .i64 x0, .int .i64 x1]) ?_ 0; exact sqK B0⟩, ⟨Z11 N1 B2⟩, ⟨sqB2 HB E0 E1⟩⟩
     obtain rfl := sqb c23
     rw [if_neg sqF] at H
     obtain ⟨rfl, rfl, rfl⟩ := sqO3 H
     have p8 : 0 ≤ (x10_1 : Int) := of_decide_eq_true Z9
     have q8 : x10_1 < (a1.size : Int) := of_decide_eq_true Z9
     have hx8 := bt_at a1 x10_1
     replace p8 := eq_true p8
     replace q8 := eq_true q8
     have := N0.1
     have := N1.1
     obtain ⟨_, _, _, _⟩ := sqY2 B0
     go_wp2_with (first | ((with_reducible refine sqc 119 rfl ?_); refine sqC (some 33) func119 #[.agg #[.int .i64 x0, .int .i64 x1], .int .i64 (-1)] ?_; (with_reducible refine (impl_plus.calls k1 x0 x1 (-1) t3 t4 false _ A22.1).mono ?_); refine sqV fun w30 hb => ?_; replace B0 := sqT B0 hb; replace B2 := sqT B2 hb; replace HB := sqS (sqB2 HB E0 E1) hb; (try clear hb); obtain ⟨_, _, _, _⟩ := sqY2 B0; obtain ⟨_, _, _, _⟩ := sqY2 B2))
     refine sqE g1 31 #[.int .i64 0, .int .i64 0] (Z107 N1 B2) underlying31 ?_
     exact ⟨Z16, sqB2 HB E0 E1⟩
    rw [if_neg c21] at H
    have c21b0 : ((bt a1 x10_1) == 116) = false := sqe0 c21
    have c21b1 : ((bt a1 x10_1) != 116) = true := sqn1 c21
    obtain ⟨⟨t6, t7⟩, A33, H⟩ := sqD H
    try dsimp only at H
    have H' := sqa H
    clear H
    have p8 : 0 ≤ (x10_1 : Int) := of_decide_eq_true Z9
    have q8 : x10_1 < (a1.size : Int) := of_decide_eq_true Z9
    have hx8 := bt_at a1 x10_1
    replace p8 := eq_true p8
    replace q8 := eq_true q8
    have := N0.1
    have := N1.1
    obtain ⟨_, _, _, _⟩ := sqY2 B0
    go_wp2_with (first | ((with_reducible refine sqc 120 rfl ?_); refine sqC (some 21) func120 #[.int .i64 (wrap64 (-x1)), .int .i64 x0] ?_; (with_reducible refine (impl_lowest.calls k1 (wrap64 (-x1)) x0 t6 t7 _ A33.1).mono ?_); refine sqV fun w36 hb => ?_; replace B0 := sqT B0 hb; replace B2 := sqT B2 hb; replace HB := sqS (sqB2 HB E0 E1) hb; (try clear hb); obtain ⟨_, _, _, _⟩ := sqY2 B0))
    go_roundg k1
    case measure => have := HK1.out; omega
    case rel => exact ⟨(wrap64 (x10_1 + 1)), (t6), (t7), (x504000_1), (x504001_1), Z4, H', ⟨Z17 HK1⟩, ⟨by refine sqPut (cs := #[.int .i64 t6, .int .i64 x1]) ?_ 1; refine sqPut (cs := #[.int .i64 x0, .int .i64 x1]) ?_ 0; exact sqK B0⟩, ⟨Z11 N1 B2⟩, ⟨sqB2 HB E0 E1⟩⟩
   rw [if_neg c5] at H
   have c5b0 : decide (x10_1 < (a1.size : Int)) = false := decide_eq_false c5
   clear c5
   obtain ⟨rfl, rfl, rfl⟩ := sqO3 H
   have := N0.1
   have := N1.1
   obtain ⟨_, _, _, _⟩ := sqY2 B0
   obtain ⟨_, _, _, _⟩ := sqY2 B2
   go_wp2
   refine sqE g1 31 #[.int .i64 x0, .int .i64 x1] (by refine sqPut (cs := #[.int .i64 x0, .int .i64 x504001_1]) ?_ 1; refine sqPut (cs := #[.int .i64 x504000_1, .int .i64 x504001_1]) ?_ 0; exact sqK B2) underlying31 ?_
   exact ⟨Z16, sqB2 HB E0 E1⟩

/-! ### impl_DancedFrom: function 25 -/
def impl_DancedFrom.f (k : Nat) (a0_0 : Int) (a0_1 : Int) (a1 : ByteArray) : Option (Int × Int × Bool) := (impl_isFraction.f k a0_0 a0_1).bind fun t0 => (if t0 = true then ((impl_isDance.f a1).bind fun t1 => (if t1 = true then ((impl_danced.f k a0_0 a0_1 a1).bind fun bt0 => (some (bt0.1, bt0.2.1, bt0.2.2))) else (some (0, 0, false)))) else (some (0, 0, false)))
theorem impl_DancedFrom.mono : ∀ a0 a1 a2 k, LeO (impl_DancedFrom.f k a0 a1 a2) (impl_DancedFrom.f (k + 1) a0 a1 a2) := by
 intro a0 a1 a2 k
 unfold impl_DancedFrom.f
 repeat' (with_reducible first | exact impl_danced.mono _ _ _ _ | exact impl_isFraction.mono _ _ _ | exact LeO.refl _ | exact LeO.none _ | refine LeO.ite ?_ ?_ | refine LeO.bind ?_ fun _ => ?_)
theorem impl_DancedFrom.calls (k : Nat) (a0_0 : Int) (a0_1 : Int) (a1 : ByteArray) (r1 : Int) (r2 : Int) (r3 : Bool) (w : World) (H : impl_DancedFrom.f k a0_0 a0_1 a1 = some (r1, r2, r3)) :
  Calls prog 25 #[.agg #[.int .i64 a0_0, .int .i64 a0_1], .string a1] w fun e w' => e = .returned (.tuple #[.agg #[.int .i64 r1, .int .i64 r2], .bool r3]) ∧ Below w.heap.size w w' := by
 have hu31 := underlying31
 have HB := sqh w
 unfold impl_DancedFrom.f at H
 obtain ⟨t0, A3, H⟩ := sqD H
 by_cases c4 : t0 = true
 ·subst c4
  rw [if_pos rfl] at H
  obtain ⟨t1, A5, H⟩ := sqD H
  by_cases c6 : t1 = true
  ·subst c6
   rw [if_pos rfl] at H
   obtain ⟨⟨t2, t3, t4⟩, A7, H⟩ := sqD H
   try dsimp only at H
   obtain ⟨rfl, rfl, rfl⟩ := sqO3 H
   go_enter func25, ntmps25
   go_wp2_with (first | ((with_reducible refine sqd 2 rfl ?_); refine sqBx w (sqB HB) (cs := #[.int .i64 a0_0, .int .i64 a0_1]) (t := 31) ?_; intro g0 hg w8 B0 E0 HB hb; clear hb hg) | ((with_reducible refine sqd 4 rfl ?_); refine sqBx w (sqB1 HB E0) (cs := #[.int .i64 0, .int .i64 0]) (t := 31) ?_; intro g1 hg w9 B2 E1 HB hb; obtain ⟨N0, N1⟩ := sqM hg B0; replace B0 := sqT B0 hb; clear hb hg; have := N0.1; have := N1.1; obtain ⟨_, _, _, _⟩ := sqY2 B0) | ((with_reducible refine sqc 70 rfl ?_); refine sqC (some 7) func70 #[.agg #[.int .i64 a0_0, .int .i64 a0_1]] ?_; (with_reducible refine (impl_isFraction.calls k a0_0 a0_1 true _ A3.1).mono ?_); refine sqV fun w12 hb => ?_; replace B0 := sqT B0 hb; replace B2 := sqT B2 hb; replace HB := sqS (sqB2 HB E0 E1) hb; (try clear hb)) | (go_at_call 71; (with_reducible refine (impl_isDance.calls a1 true _ A5.1).mono ?_); rintro e w13 ⟨rfl, hb⟩; replace B0 := sqT B0 hb; replace B2 := sqT B2 hb; replace HB := sqS (sqB2 HB E0 E1) hb; (try clear hb); obtain ⟨_, _, _, _⟩ := sqY2 B0) | ((with_reducible refine sqc 72 rfl ?_); refine sqC (some 17) func72 #[.agg #[.int .i64 a0_0, .int .i64 a0_1], .string a1] ?_; (with_reducible refine (impl_danced.calls k a0_0 a0_1 a1 t2 t3 t4 _ A7.1).mono ?_); refine sqV fun w15 hb => ?_; replace B0 := sqT B0 hb; replace B2 := sqT B2 hb; replace HB := sqS (sqB2 HB E0 E1) hb; (try clear hb); obtain ⟨_, _, _, _⟩ := sqY2 B2))
   refine sqE g1 31 #[.int .i64 t2, .int .i64 t3] (by refine sqPut (cs := #[.int .i64 t2, .int .i64 0]) ?_ 1; refine sqPut (cs := #[.int .i64 0, .int .i64 0]) ?_ 0; exact sqK B2) underlying31 ?_
   exact ⟨Z16, sqB2 HB E0 E1⟩
  obtain rfl := sqb c6
  rw [if_neg sqF] at H
  obtain ⟨rfl, rfl, rfl⟩ := sqO3 H
  go_enter func25, ntmps25
  go_wp2_with (first | ((with_reducible refine sqd 2 rfl ?_); refine sqBx w (sqB HB) (cs := #[.int .i64 a0_0, .int .i64 a0_1]) (t := 31) ?_; intro g0 hg w17 B0 E0 HB hb; clear hb hg) | ((with_reducible refine sqd 4 rfl ?_); refine sqBx w (sqB1 HB E0) (cs := #[.int .i64 0, .int .i64 0]) (t := 31) ?_; intro g1 hg w18 B2 E1 HB hb; obtain ⟨N0, N1⟩ := sqM hg B0; replace B0 := sqT B0 hb; clear hb hg; have := N0.1; have := N1.1; obtain ⟨_, _, _, _⟩ := sqY2 B0) | ((with_reducible refine sqc 70 rfl ?_); refine sqC (some 7) func70 #[.agg #[.int .i64 a0_0, .int .i64 a0_1]] ?_; (with_reducible refine (impl_isFraction.calls k a0_0 a0_1 true _ A3.1).mono ?_); refine sqV fun w21 hb => ?_; replace B0 := sqT B0 hb; replace B2 := sqT B2 hb; replace HB := sqS (sqB2 HB E0 E1) hb; (try clear hb)) | (go_at_call 71; (with_reducible refine (impl_isDance.calls a1 false _ A5.1).mono ?_); rintro e w22 ⟨rfl, hb⟩; replace B0 := sqT B0 hb; replace B2 := sqT B2 hb; replace HB := sqS (sqB2 HB E0 E1) hb; (try clear hb); obtain ⟨_, _, _, _⟩ := sqY2 B2))
  refine sqE g1 31 #[.int .i64 0, .int .i64 0] (Z54 B2) underlying31 ?_
  exact ⟨Z16, sqB2 HB E0 E1⟩
 obtain rfl := sqb c4
 rw [if_neg sqF] at H
 obtain ⟨rfl, rfl, rfl⟩ := sqO3 H
 go_enter func25, ntmps25
 go_wp2_with (first | ((with_reducible refine sqd 2 rfl ?_); refine sqBx w (sqB HB) (cs := #[.int .i64 a0_0, .int .i64 a0_1]) (t := 31) ?_; intro g0 hg w24 B0 E0 HB hb; clear hb hg) | ((with_reducible refine sqd 4 rfl ?_); refine sqBx w (sqB1 HB E0) (cs := #[.int .i64 0, .int .i64 0]) (t := 31) ?_; intro g1 hg w25 B2 E1 HB hb; obtain ⟨N0, N1⟩ := sqM hg B0; replace B0 := sqT B0 hb; clear hb hg; have := N0.1; have := N1.1; obtain ⟨_, _, _, _⟩ := sqY2 B0) | ((with_reducible refine sqc 70 rfl ?_); refine sqC (some 7) func70 #[.agg #[.int .i64 a0_0, .int .i64 a0_1]] ?_; (with_reducible refine (impl_isFraction.calls k a0_0 a0_1 false _ A3.1).mono ?_); refine sqV fun w28 hb => ?_; replace B0 := sqT B0 hb; replace B2 := sqT B2 hb; replace HB := sqS (sqB2 HB E0 E1) hb; (try clear hb); obtain ⟨_, _, _, _⟩ := sqY2 B2))
 refine sqE g1 31 #[.int .i64 0, .int .i64 0] (Z54 B2) underlying31 ?_
 exact ⟨Z16, sqB2 HB E0 E1⟩

/-! ### impl_isSmall: function 104 -/
def impl_isSmall.f (k : Nat) (a0_0 : Int) (a0_1 : Int) (a1 : Int) : Option (Bool) := (impl_isFraction.f k a0_0 a0_1).bind fun t0 => (if t0 = true then (if a0_0 ≥ (wrap64 (-a1)) then (if a0_0 ≤ a1 then (some (decide (a0_1 ≤ a1))) else (some false)) else (some false)) else (some false))
theorem impl_isSmall.mono : ∀ a0 a1 a2 k, LeO (impl_isSmall.f k a0 a1 a2) (impl_isSmall.f (k + 1) a0 a1 a2) := by
 intro a0 a1 a2 k
 unfold impl_isSmall.f
 repeat' (with_reducible first | exact impl_isFraction.mono _ _ _ | exact LeO.refl _ | exact LeO.none _ | refine LeO.ite ?_ ?_ | refine LeO.bind ?_ fun _ => ?_)
theorem impl_isSmall.calls (k : Nat) (a0_0 : Int) (a0_1 : Int) (a1 : Int) (r : Bool) (w : World) (H : impl_isSmall.f k a0_0 a0_1 a1 = some r) :
  Calls prog 104 #[.agg #[.int .i64 a0_0, .int .i64 a0_1], .int .i64 a1] w fun e w' => e = .returned (.bool r) ∧ Below w.heap.size w w' := by
 have hu31 := underlying31
 have HB := sqh w
 unfold impl_isSmall.f at H
 obtain ⟨t0, A3, H⟩ := sqD H
 by_cases c4 : t0 = true
 ·subst c4
  rw [if_pos rfl] at H
  by_cases c5 : a0_0 ≥ (wrap64 (-a1))
  ·rw [if_pos c5] at H
   have c5b0 : decide ((wrap64 (-a1)) ≤ a0_0) = true := decide_eq_true c5
   clear c5
   by_cases c6 : a0_0 ≤ a1
   ·rw [if_pos c6] at H
    have c6b0 : decide (a0_0 ≤ a1) = true := decide_eq_true c6
    clear c6
    obtain rfl := sqo H
    go_enter func104, ntmps104
    go_wp2_with (first | ((with_reducible refine sqd 2 rfl ?_); refine sqBx w (sqB HB) (cs := #[.int .i64 a0_0, .int .i64 a0_1]) (t := 31) ?_; intro g0 hg w7 B0 E0 HB hb; clear hb hg; obtain ⟨_, _, _, _⟩ := sqY2 B0) | ((with_reducible refine sqc 70 rfl ?_); refine sqC (some 6) func70 #[.agg #[.int .i64 a0_0, .int .i64 a0_1]] ?_; (with_reducible refine (impl_isFraction.calls k a0_0 a0_1 true _ A3.1).mono ?_); refine sqV fun w9 hb => ?_; replace B0 := sqT B0 hb; replace HB := sqS (sqB1 HB E0) hb; (try clear hb); obtain ⟨_, _, _, _⟩ := sqY2 B0))
    go_ret
    exact ⟨Z16, sqB1 HB E0⟩
   rw [if_neg c6] at H
   have c6b0 : decide (a0_0 ≤ a1) = false := decide_eq_false c6
   clear c6
   obtain rfl := sqo H
   go_enter func104, ntmps104
   go_wp2_with (first | ((with_reducible refine sqd 2 rfl ?_); refine sqBx w (sqB HB) (cs := #[.int .i64 a0_0, .int .i64 a0_1]) (t := 31) ?_; intro g0 hg w11 B0 E0 HB hb; clear hb hg; obtain ⟨_, _, _, _⟩ := sqY2 B0) | ((with_reducible refine sqc 70 rfl ?_); refine sqC (some 6) func70 #[.agg #[.int .i64 a0_0, .int .i64 a0_1]] ?_; (with_reducible refine (impl_isFraction.calls k a0_0 a0_1 true _ A3.1).mono ?_); refine sqV fun w13 hb => ?_; replace B0 := sqT B0 hb; replace HB := sqS (sqB1 HB E0) hb; (try clear hb); obtain ⟨_, _, _, _⟩ := sqY2 B0))
   go_ret
   exact ⟨Z16, sqB1 HB E0⟩
  rw [if_neg c5] at H
  have c5b0 : decide ((wrap64 (-a1)) ≤ a0_0) = false := decide_eq_false c5
  clear c5
  obtain rfl := sqo H
  go_enter func104, ntmps104
  go_wp2_with (first | ((with_reducible refine sqd 2 rfl ?_); refine sqBx w (sqB HB) (cs := #[.int .i64 a0_0, .int .i64 a0_1]) (t := 31) ?_; intro g0 hg w15 B0 E0 HB hb; clear hb hg; obtain ⟨_, _, _, _⟩ := sqY2 B0) | ((with_reducible refine sqc 70 rfl ?_); refine sqC (some 6) func70 #[.agg #[.int .i64 a0_0, .int .i64 a0_1]] ?_; (with_reducible refine (impl_isFraction.calls k a0_0 a0_1 true _ A3.1).mono ?_); refine sqV fun w17 hb => ?_; replace B0 := sqT B0 hb; replace HB := sqS (sqB1 HB E0) hb; (try clear hb); obtain ⟨_, _, _, _⟩ := sqY2 B0))
  go_ret
  exact ⟨Z16, sqB1 HB E0⟩
 obtain rfl := sqb c4
 rw [if_neg sqF] at H
 obtain rfl := sqo H
 go_enter func104, ntmps104
 go_wp2_with (first | ((with_reducible refine sqd 2 rfl ?_); refine sqBx w (sqB HB) (cs := #[.int .i64 a0_0, .int .i64 a0_1]) (t := 31) ?_; intro g0 hg w19 B0 E0 HB hb; clear hb hg; obtain ⟨_, _, _, _⟩ := sqY2 B0) | ((with_reducible refine sqc 70 rfl ?_); refine sqC (some 6) func70 #[.agg #[.int .i64 a0_0, .int .i64 a0_1]] ?_; (with_reducible refine (impl_isFraction.calls k a0_0 a0_1 false _ A3.1).mono ?_); refine sqV fun w21 hb => ?_; replace B0 := sqT B0 hb; replace HB := sqS (sqB1 HB E0) hb; (try clear hb)))
 go_ret
 exact ⟨Z16, sqB1 HB E0⟩

-- given: function 84 (strings_Cut)

-- given: function 144 (strconv_Itoa)

end Go.Proofs.YtofmlbgfcohhoaaGreatDoor.PFnExactDeskSay
