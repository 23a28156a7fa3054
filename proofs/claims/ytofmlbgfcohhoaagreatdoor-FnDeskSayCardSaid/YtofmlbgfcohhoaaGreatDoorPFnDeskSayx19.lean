import Derived.Test.YtofmlbgfcohhoaaGreatDoorPFnDeskSayx17
set_option maxHeartbeats 8000000
set_option maxRecDepth 100000
namespace Go.Proofs.YtofmlbgfcohhoaaGreatDoor.PFnDeskSay
open Go.RowKit Go.Proofs.YtofmlbgfcohhoaaGreatDoorW.PrintWords Go.Proofs.YtofmlbgfcohhoaaGreatDoorW.PrintLast Go.Proofs.YtofmlbgfcohhoaaGreatDoorW.PrintMore Go.Proofs.YtofmlbgfcohhoaaGreatDoor.Lib Go.Proofs.Tryz
attribute [local go_sem] max2_int min2_int max_two min_two max_three min_three max_four min_four   -- for this text's walks alone
set_option linter.unusedVariables false
set_option linter.unusedSimpArgs false

attribute [local go_sem high] eqA38
mutual
def F23.j0 : Nat → Bool → Bool → Int → ByteArray → Option (ByteArray)
 | 0, _, _, _, _ => none
 | k + 1, x4, x0, x1, x2 => if x0 = true then (if 6 + x2.size ≤ 9223372036854775807 then (some ((⟨#[100, 97, 110, 99, 101, 32]⟩ : ByteArray) ++ x2)) else (none)) else (if x1 = 1 then (F23.j1 k x4 x1 x2) else (F23.j1 k false x1 x2))
def F23.j1 : Nat → Bool → Int → ByteArray → Option (ByteArray)
 | 0, _, _, _ => none
 | k + 1, x0, x1, x2 => if x0 = true then (if 5 + x2.size ≤ 9223372036854775807 then (some ((⟨#[116, 97, 107, 101, 32]⟩ : ByteArray) ++ x2)) else (none)) else (if (x1 == 2 && (x2.toList == ([] : List UInt8))) = true then (some (⟨#[109, 105, 114, 114, 111, 114]⟩ : ByteArray)) else (if (x1 == 3 && (x2.toList == ([] : List UInt8))) = true then (some (⟨#[117, 110, 116, 105, 101]⟩ : ByteArray)) else (if (x1 == 4 && (x2.toList == ([] : List UInt8))) = true then (some (⟨#[98, 97, 99, 107]⟩ : ByteArray)) else (some (⟨#[]⟩ : ByteArray)))))
end
def F23.f (k : Nat) (a0_0 : Int) (a0_1 : ByteArray) : Option (ByteArray) := (F66.f k a0_1).bind fun bt0 => (if a0_0 = 0 then ((F26.f k a0_1).bind fun t0 => (F23.j0 k bt0.2.2 t0 a0_0 a0_1)) else (F23.j0 k bt0.2.2 false a0_0 a0_1))
theorem F23.c (k : Nat) (a0_0 : Int) (a0_1 : ByteArray) (r : ByteArray) (w : World) (H : F23.f k a0_0 a0_1 = some r) :
  Calls prog 122 #[.agg #[.int .i64 a0_0, .string a0_1]] w fun e w' => e = .returned (.string r) ∧ Below w.heap.size w w' := by
 have hu38 := underlying38
 have hu31 := underlying31
 have HB := sqh w
 unfold F23.f at H
 obtain ⟨⟨t515, t0, t1⟩, A2, H⟩ := sqD H
 try dsimp only at H
 have HC3 := sqa H
 clear H
 go_enter func122, ntmps122
 go_upto_region 2 with (first | ((with_reducible refine sqd 1 rfl ?_); refine sqx0 w (sqB HB) #[.int .i64 a0_0, .string a0_1] 38 fun g0 w4 B0 E0 HB => ?_; have := sqY2 B0) | ((with_reducible refine sqc 107 rfl ?_); refine sqv (some 8) func107 (F66.c k a0_1 t515 t0 t1 _ A2.1) fun w6 hb => ?_; replace B0 := sqT B0 hb; replace HB := sqS (sqB1 HB E0) hb) | ((with_reducible refine sqd 3 rfl ?_); refine sqx1 w (sqB1 HB E0) #[.int .i64 0, .int .i64 0] 31 B0 fun g1 w7 B2 E1 HB N0 N1 B0 => ?_; have := sqn2 N1 N0; have := sqY2 B2))
 (try simp only [Act.put, List.setIfInBounds_toArray, List.set_cons_zero, List.set_cons_succ])
 go_cut [11] (fun v0 wc => ∃ (kq : Nat) (x0 : Bool), v0 = .bool x0 ∧ Aside0 (F23.j0 kq t1 x0 a0_0 a0_1 = some r) ∧ Aside0 (kq ≤ k) ∧ Aside0 (wc.heap[g0]? = some (.cells #[.int .i64 a0_0, .string a0_1] 38 (0, 0))) ∧ Aside0 (wc.heap[g1]? = some (.cells #[.int .i64 t515, .int .i64 t0] 31 (0, 0))) ∧ Aside0 (Below w.heap.size w wc))
 case first =>
  have H := HC3.1
  clear HC3
  obtain ⟨c0, c1, H⟩ | ⟨c0, c1, c10, H⟩ := sqi4 H
  ·(first | rw [c0] | (simp only [i64_w, i32_w]; rw [c0]) | skip)
   obtain ⟨t2, A0, H⟩ := sqD H
   have H' := sqa H
   clear H
   have := sqn2 N0 N1
   have := sqY2 B0
   go_wp2_with (first | (go_at_call 134; (with_reducible refine (F26.c k a0_1 t2 _ A0.1).mono ?_); rintro e w' ⟨rfl, ⟨nd, rfl⟩⟩))
   go_meet
   case rel => exact ⟨_, (t2), Z1, H', ⟨Z11⟩, ⟨Z9 N0 B0⟩, ⟨Z48 B2⟩, ⟨sqB2 HB E0 E1⟩⟩
  (first | rw [c0] | (simp only [i64_w, i32_w]; rw [c0]) | skip)
  have H' := sqa H
  clear H
  have := sqn2 N0 N1
  have := sqY2 B0
  go_wp2
  go_meet
  case rel => exact ⟨_, (false), Z1, H', ⟨Z11⟩, ⟨Z9 N0 B0⟩, ⟨Z48 B2⟩, ⟨sqB2 HB E0 E1⟩⟩
 case rest =>
  clear HC3
  obtain ⟨kq, x0, rfl, HA, HJ2, B0, B2, HB⟩ := hcut
  cases kq with
  | zero => exact absurd HA.out (by simp [F23.j0])
  | succ kj2 =>
   have H := HA.out
   clear HA
   simp only [F23.j0] at H
   obtain rfl | rfl := sqt x0
   ·rw [if_pos rfl] at H
    obtain ⟨c3, c4, c5, H⟩ := sqJ5 H
    try have c6 : (9223372036854775807 < 6 + a0_1.size) = False := eq_false (Nat.not_lt.2 c3)
    obtain rfl := sqo H
    have := sqn2 N0 N1
    have := sqY2 B0
    go_wp2
    go_ret
    exact ⟨Z5, sqB2 HB E0 E1⟩
   rw [if_neg sqF] at H
   have HC0 := sqa H
   clear H
   go_upto_region 4 with (fail)
   go_cut [23] (fun v1 wc => ∃ (kq : Nat) (x1 : Bool), v1 = .bool x1 ∧ Aside0 (F23.j1 kq x1 a0_0 a0_1 = some r) ∧ Aside0 (kq ≤ kj2) ∧ Aside0 (wc.heap[g0]? = some (.cells #[.int .i64 a0_0, .string a0_1] 38 (0, 0))) ∧ Aside0 (wc.heap[g1]? = some (.cells #[.int .i64 t515, .int .i64 t0] 31 (0, 0))) ∧ Aside0 (Below w.heap.size w wc))
   case first =>
    have H := HC0.1
    clear HC0
    obtain ⟨c7, c8, H⟩ | ⟨c7, c8, c21, H⟩ := sqi4 H
    ·(first | rw [c7] | (simp only [i64_w, i32_w]; rw [c7]) | skip)
     have H' := sqa H
     clear H
     have := sqn2 N0 N1
     have := sqY2 B0
     go_wp2
     go_meet
     case rel => exact ⟨_, (t1), Z1, H', ⟨Z49⟩, ⟨sqK B0⟩, ⟨sqK B2⟩, ⟨sqB2 HB E0 E1⟩⟩
    (first | rw [c7] | (simp only [i64_w, i32_w]; rw [c7]) | skip)
    have H' := sqa H
    clear H
    have := sqn2 N0 N1
    have := sqY2 B0
    go_wp2
    go_meet
    case rel => exact ⟨_, (false), Z1, H', ⟨Z49⟩, ⟨sqK B0⟩, ⟨sqK B2⟩, ⟨sqB2 HB E0 E1⟩⟩
   case rest =>
    clear HC0
    obtain ⟨kq, x1, rfl, HA, HJ0, B0, B2, HB⟩ := hcut
    cases kq with
    | zero => exact absurd HA.out (by simp [F23.j1])
    | succ kj0 =>
     have H := HA.out
     clear HA
     simp only [F23.j1] at H
     obtain rfl | rfl := sqt x1
     ·rw [if_pos rfl] at H
      obtain ⟨c27, c12, c13, H⟩ := sqJ5 H
      try have c14 : (9223372036854775807 < 5 + a0_1.size) = False := eq_false (Nat.not_lt.2 c27)
      obtain rfl := sqo H
      have := sqn2 N0 N1
      have := sqY2 B0
      go_wp2
      go_ret
      exact ⟨Z5, sqB2 HB E0 E1⟩
     rw [if_neg sqF] at H
     obtain ⟨c30, H⟩ | ⟨c30, H⟩ := sqi2 H
     ·have c18 : (a0_0 == 2 && (a0_1.toList == ([] : List UInt8))) = true := c30
      try have c19 : (a0_0 == 2 && a0_1.toList.isEmpty) = true := by (have h_ := c18; (repeat rw [sqy] at h_); exact h_)
      (try (have c20 : decide (a0_0 = 2 && (a0_1.toList == ([] : List UInt8))) = true := by simpa using c30))
      (try (have c22 : (a0_0 == 2 && (a0_1.toList == ([] : List UInt8))) = true := by simpa using c30))
      clear c30
      obtain rfl := sqo H
      have := sqn2 N0 N1
      have := sqY2 B0
      go_wp2
      go_ret
      exact ⟨Z5, sqB2 HB E0 E1⟩
     have c18 : (a0_0 == 2 && (a0_1.toList == ([] : List UInt8))) = false := by simpa using c30
     try have c19 : (a0_0 == 2 && a0_1.toList.isEmpty) = false := by (have h_ := c18; (repeat rw [sqy] at h_); exact h_)
     (try (have c20 : decide (a0_0 = 2 && (a0_1.toList == ([] : List UInt8))) = false := by simpa using c30))
     (try (have c22 : (a0_0 == 2 && (a0_1.toList == ([] : List UInt8))) = false := by simpa using c30))
     (try (have c23 : ¬ (a0_0 = 2 && (a0_1.toList == ([] : List UInt8))) := by simpa using c30))
     clear c30
     obtain ⟨c33, H⟩ | ⟨c33, H⟩ := sqi2 H
     ·have c25 : (a0_0 == 3 && (a0_1.toList == ([] : List UInt8))) = true := c33
      try have c28 : (a0_0 == 3 && a0_1.toList.isEmpty) = true := by (have h_ := c25; (repeat rw [sqy] at h_); exact h_)
      (try (have c29 : decide (a0_0 = 3 && (a0_1.toList == ([] : List UInt8))) = true := by simpa using c33))
      (try (have c31 : (a0_0 == 3 && (a0_1.toList == ([] : List UInt8))) = true := by simpa using c33))
      clear c33
      obtain rfl := sqo H
      have := sqn2 N0 N1
      have := sqY2 B0
      go_wp2
      go_ret
      exact ⟨Z5, sqB2 HB E0 E1⟩
     have c25 : (a0_0 == 3 && (a0_1.toList == ([] : List UInt8))) = false := by simpa using c33
     try have c28 : (a0_0 == 3 && a0_1.toList.isEmpty) = false := by (have h_ := c25; (repeat rw [sqy] at h_); exact h_)
     (try (have c29 : decide (a0_0 = 3 && (a0_1.toList == ([] : List UInt8))) = false := by simpa using c33))
     (try (have c31 : (a0_0 == 3 && (a0_1.toList == ([] : List UInt8))) = false := by simpa using c33))
     (try (have c32 : ¬ (a0_0 = 3 && (a0_1.toList == ([] : List UInt8))) := by simpa using c33))
     clear c33
     obtain ⟨c36, H⟩ | ⟨c36, H⟩ := sqi2 H
     ·have c35 : (a0_0 == 4 && (a0_1.toList == ([] : List UInt8))) = true := c36
      try have c37 : (a0_0 == 4 && a0_1.toList.isEmpty) = true := by (have h_ := c35; (repeat rw [sqy] at h_); exact h_)
      (try (have c38 : decide (a0_0 = 4 && (a0_1.toList == ([] : List UInt8))) = true := by simpa using c36))
      (try (have c39 : (a0_0 == 4 && (a0_1.toList == ([] : List UInt8))) = true := by simpa using c36))
      clear c36
      obtain rfl := sqo H
      have := sqn2 N0 N1
      have := sqY2 B0
      go_wp2
      go_ret
      exact ⟨Z5, sqB2 HB E0 E1⟩
     have c35 : (a0_0 == 4 && (a0_1.toList == ([] : List UInt8))) = false := by simpa using c36
     try have c37 : (a0_0 == 4 && a0_1.toList.isEmpty) = false := by (have h_ := c35; (repeat rw [sqy] at h_); exact h_)
     (try (have c38 : decide (a0_0 = 4 && (a0_1.toList == ([] : List UInt8))) = false := by simpa using c36))
     (try (have c39 : (a0_0 == 4 && (a0_1.toList == ([] : List UInt8))) = false := by simpa using c36))
     (try (have c40 : ¬ (a0_0 = 4 && (a0_1.toList == ([] : List UInt8))) := by simpa using c36))
     clear c36
     obtain rfl := sqo H
     have := sqn2 N0 N1
     have := sqY2 B0
     go_wp2
     go_ret
     exact ⟨Z5, sqB2 HB E0 E1⟩

mutual
def F7.j0 : Nat → ByteArray → List (S38) → Option (Int × ByteArray × Bool)
 | 0, _, _ => none
 | k + 1, x0, x5 => F7.l0 k x0 x5 0
def F7.l0 : Nat → ByteArray → List (S38) → Int → Option (Int × ByteArray × Bool)
 | 0, _, _, _ => none
 | k + 1, x0, x5, x6 => if x6 < (x5.length : Int) then (if x0.toList = ([] : List UInt8) then (F7.l0 k x0 x5 (wrap64 (x6 + 1))) else (if 0 ≤ x6 then ((F23.f k ((rd_T38 x5 x6).f0) ((rd_T38 x5 x6).f1)).bind fun t0 => (if t0.toList = x0.toList then (some ((rd_T38 x5 x6).f0, (rd_T38 x5 x6).f1, true)) else (F7.l0 k x0 x5 (wrap64 (x6 + 1))))) else (none))) else (some (0, (⟨#[]⟩ : ByteArray), false))
end
def F7.f (k : Nat) (a0 : ByteArray) : Option (Int × ByteArray × Bool) := (F21.f k a0 32).bind fun t0 => ((some (([(⟨2, (⟨#[]⟩ : ByteArray)⟩ : S38), (⟨3, (⟨#[]⟩ : ByteArray)⟩ : S38), (⟨4, (⟨#[]⟩ : ByteArray)⟩ : S38)] : List (S38)) : List (S38))).bind fun y0 => (if (t0.length : Int) = 2 then (if 1 < (t0.length : Int) then ((some (([(⟨0, rdOf ByteArray.empty t0 1⟩ : S38), (⟨1, rdOf ByteArray.empty t0 1⟩ : S38)] : List (S38)) : List (S38))).bind fun y1 => (if y0.length + y1.length < 5864062014805 then (F7.j0 k a0 (y0 ++ y1)) else (none))) else (none)) else (F7.j0 k a0 y0)))
def F7.T4 : Bool × List (List Nat × List Nat) := (true, [([], []), ([], []), ([1], [1]), ([2], [2]), ([3], [3]), ([], []), ([5], [5]), ([6], [6]), ([7], [7]), ([4, 8], [4, 8]), ([0, 9], [0, 9]), ([10, 10, 0, 1, 2, 3, 4, 5, 6, 7, 8, 9, 10], [0, 10])])
def F7.B4 : List Nat := [0, 0, 2, 6, 14, 0, 32, 96, 224, 510, 1023, 2047]
theorem F7.tab4 : rtab .any (opsOf f86 4) = F7.T4 := by kernel_rfl
theorem F7.bits4 : waitsOk F7.T4.2 F7.B4 = true := by kernel_rfl
theorem F7.c (k : Nat) (a0 : ByteArray) (r1 : Int) (r2 : ByteArray) (r3 : Bool) (w : World) (H : F7.f k a0 = some (r1, r2, r3)) :
  Calls prog 86 #[.string a0] w fun e w' => e = .returned (.tuple #[.agg #[.int .i64 r1, .string r2], .bool r3]) ∧ Below w.heap.size w w' := by
 have hu38 := underlying38
 have HB := sqh w
 unfold F7.f at H
 obtain ⟨t0, A2, H⟩ := sqD H
 obtain ⟨y0, hy0⟩ : ∃ y_ : List (S38), y_ = (([(⟨2, (⟨#[]⟩ : ByteArray)⟩ : S38), (⟨3, (⟨#[]⟩ : ByteArray)⟩ : S38), (⟨4, (⟨#[]⟩ : ByteArray)⟩ : S38)] : List (S38))) := ⟨_, rfl⟩
 replace H : (if (t0.length : Int) = 2 then (if 1 < (t0.length : Int) then ((some (([(⟨0, rdOf ByteArray.empty t0 1⟩ : S38), (⟨1, rdOf ByteArray.empty t0 1⟩ : S38)] : List (S38)) : List (S38))).bind fun y1 => (if y0.length + y1.length < 5864062014805 then (F7.j0 k a0 (y0 ++ y1)) else (none))) else (none)) else (F7.j0 k a0 y0)) = some (r1, r2, r3) := sqW hy0 H
 have Ny0 := sqa hy0
 clear hy0
 have HC3 := sqa H
 clear H
 go_enter func86, ntmps86
 go_upto_if 15 with (first | ((with_reducible refine sqd 2 rfl ?_); refine sqx0 w (sqB HB) #[.int .i64 0, .string (⟨#[]⟩ : ByteArray)] 38 fun g0 w4 B0 E0 HB => ?_) | ((with_reducible refine sqc 99 rfl ?_); refine sqvo (some 8) func99 (F21.c k a0 32 t0 _ A2.1) fun v0 w5 ho0 hb => ?_; have O0 := sqL ho0 (sqB1 HB E0); replace B0 := sqT B0 hb; replace HB := sqS (sqB1 HB E0) hb; (try clear ho0)) | ((with_reducible refine sqd 12 rfl ?_); refine Kd.R_lit k38 _ 38 ?hg (N := 12) ?hd (xs := ([(⟨2, (⟨#[]⟩ : ByteArray)⟩ : S38), (⟨3, (⟨#[]⟩ : ByteArray)⟩ : S38), (⟨4, (⟨#[]⟩ : ByteArray)⟩ : S38)] : List (S38))) (inner := [.int .i64 2, .string (⟨#[]⟩ : ByteArray), .int .i64 3, .string (⟨#[]⟩ : ByteArray), .int .i64 4, .string (⟨#[]⟩ : ByteArray)]) (ok := fun _ => True) (okp := fun _ => True) ?hr ?hp (fun _ hk => hk) trivial (Below.refl _ _) (Nat.le_refl _) (by simp) ?_; (case hd => rfl); (case hg => rfl); (case hr => exact Z17); (case hp => exact (Reps.c2 (show Kd.M k38 _ _ _ (⟨2, (⟨#[]⟩ : ByteArray)⟩ : S38) [.int .i64 2, .string (⟨#[]⟩ : ByteArray)] from (k38_mkM _ _ _ (⟨2, (⟨#[]⟩ : ByteArray)⟩ : S38) )) (Reps.c2 (show Kd.M k38 _ _ _ (⟨3, (⟨#[]⟩ : ByteArray)⟩ : S38) [.int .i64 3, .string (⟨#[]⟩ : ByteArray)] from (k38_mkM _ _ _ (⟨3, (⟨#[]⟩ : ByteArray)⟩ : S38) )) (Reps.c2 (show Kd.M k38 _ _ _ (⟨4, (⟨#[]⟩ : ByteArray)⟩ : S38) [.int .i64 4, .string (⟨#[]⟩ : ByteArray)] from (k38_mkM _ _ _ (⟨4, (⟨#[]⟩ : ByteArray)⟩ : S38) )) (Reps.none _ _))))); intro v1 w6 ho7 hb hg_ hnew_; clear hg_ hnew_; (first | rw [← Ny0.out] at ho7 | (simp only [Int.reduceToNat] at ho7; rw [← Ny0.out] at ho7)); replace O0 := sqU O0 hb; have O1 := sqa (Kd.R_lower (Kd.R_newB ho7 (sqK B0)) (below_size (sqB1 HB E0))); replace B0 := sqT B0 hb; replace HB := sqS (sqB1 HB E0) hb; clear hb ho7; obtain ⟨Ao8, co8, eo8⟩ := Kd.R_slice O0.1; subst eo8))
 (try simp only [Act.put, List.setIfInBounds_toArray, List.set_cons_zero, List.set_cons_succ])
 go_cut [5] (fun v5 wc => ∃ (kq : Nat) (x5_2 : List (S38)), Aside0 (F7.j0 kq a0 x5_2 = some (r1, r2, r3)) ∧ Aside0 (kq ≤ k) ∧ Aside0 (Kd.R k38 38 wc w.heap.size (fun k_ => k_ ≠ g0) v5 x5_2) ∧ Aside0 (wc.heap[g0]? = some (.cells #[.int .i64 0, .string (⟨#[]⟩ : ByteArray)] 38 (0, 0))) ∧ Aside0 (Below w.heap.size w wc))
 case first =>
  have H := HC3.1
  clear HC3
  obtain ⟨c9b0, c9b1, H⟩ | ⟨c9b0, c9b1, c9, H⟩ := sqi4 H
  ·(first | rw [c9b0] | (simp only [i64_w, i32_w]; rw [c9b0]) | skip)
   obtain ⟨c10, c0, H⟩ := sqJ4 H
   have c1 : decide (1 < t0.length) = true := decide_eq_true (by omega)
   clear c10
   obtain ⟨y1, hy1⟩ : ∃ y_ : List (S38), y_ = (([(⟨0, rdOf ByteArray.empty t0 1⟩ : S38), (⟨1, rdOf ByteArray.empty t0 1⟩ : S38)] : List (S38))) := ⟨_, rfl⟩
   replace H : (if y0.length + y1.length < 5864062014805 then (F7.j0 k a0 (y0 ++ y1)) else (none)) = some (r1, r2, r3) := sqW hy1 H
   have Ny1 := sqa hy1
   clear hy1
   obtain ⟨c3, H⟩ := sqI H
   have LMc0 := sqa c3
   clear c3
   obtain ⟨y2, hy2⟩ : ∃ y_ : List (S38), y_ = (y0 ++ y1) := ⟨_, rfl⟩
   replace H : (F7.j0 k a0 y2) = some (r1, r2, r3) := sqW hy2 H
   have Ny2 := sqa hy2
   clear hy2
   have H' := sqa H
   clear H
   try go_wp2
   replace O0 := sqa (Kd.R_drew O0.1)
   replace O1 := sqa (Kd.R_drew O1.1)
   replace B0 := sqa (blk_drew B0.1)
   replace HB := sqa (below_drew1 HB.1)
   have p0 : 0 ≤ (1 : Int) := (by omega)
   have q0 : 1 < (t0.length : Int) := of_decide_eq_true Z16
   obtain ⟨ad0, e0, hx0⟩ := Kd.at_string (Kd.R_reads' O0.1).2.2 1 p0 q0
   cases e0
   (try simp only [show (1 : Int).toNat = 1 from rfl, Nat.reduceMul, Nat.reduceEqDiff, Go.Addr.add, ↓reduceIte] at hx0)
   have qi0 : (1 < t0.length) = True := eq_true (by omega)
   (try rw [show ((1 : Int)).toNat = 1 from rfl] at hx0)
   replace p0 := eq_true p0
   replace q0 := eq_true q0
   have p1 : 0 ≤ (1 : Int) := (by omega)
   have q1 : 1 < (t0.length : Int) := of_decide_eq_true Z16
   obtain ⟨ad1, e1, hx1⟩ := Kd.at_string (Kd.R_reads' O0.1).2.2 1 p1 q1
   obtain rfl : ad0 = ad1 := (by injection e1)
   (try simp only [show (1 : Int).toNat = 1 from rfl, Nat.reduceMul, Nat.reduceEqDiff, Go.Addr.add, ↓reduceIte] at hx1)
   have qi1 : (1 < t0.length) = True := eq_true (by omega)
   (try rw [show ((1 : Int)).toNat = 1 from rfl] at hx1)
   replace p1 := eq_true p1
   replace q1 := eq_true q1
   refine start_ (n := 12) (S := fun w' => w'.cell? ⟨ad0.block, ad0.off + 1, none⟩ = some (.string (rdOf ByteArray.empty t0 1)) ∧ w'.cell? ⟨ad0.block, ad0.off + 1, none⟩ = some (.string (rdOf ByteArray.empty t0 1))) (ds := [10]) #[false, false, false, false, false, false, false, false, false, false, false, false] (by kernel_rfl) rfl rfl ⟨hx0, hx1⟩ (fun hHeld => ?_); refine with_tabW F7.tab4 F7.bits4 (fun HT_ HW_ => ?_)
   generalize w6.drew = w1 at O0 O1 B0 HB hx0 hx1 hHeld ⊢
   refine sqP 0 (some 16) (h := ?_)
   refine sqP 1 (some 17) (h := ?_)
   refine sqP 2 (some 18) (h := ?_)
   refine sqP 5 (some 21) (h := ?_)
   refine sqP 6 (some 22) (h := ?_)
   refine sqQ 3 (some 19) hHeld (h := ?_)
   refine sqP 4 (some 20) (h := ?_)
   refine sqQ 7 (some 23) hHeld (h := ?_)
   refine sqP 8 (some 24) (h := ?_)
   refine sq1 9 (some 25) (h := fun K hK => ?_)
   refine Kd.R_lit_step k38 _ 38 ?hg (N := 25) ?hd (xs := ([(⟨0, rdOf ByteArray.empty t0 1⟩ : S38), (⟨1, rdOf ByteArray.empty t0 1⟩ : S38)] : List (S38))) (inner := [.int .i64 0, .string (rdOf ByteArray.empty t0 1), .int .i64 1, .string (rdOf ByteArray.empty t0 1)]) (ok := fun _ => True) (okp := fun _ => True) ?hr ?hp (fun _ hk => hk) trivial (Below.refl _ _) (Nat.le_refl _) (by simp) ?_; (case hd => rfl); (case hg => rfl); (case hr => exact Z17); (case hp => exact (Reps.c2 (show Kd.M k38 _ _ _ (⟨0, rdOf ByteArray.empty t0 1⟩ : S38) [.int .i64 0, .string (rdOf ByteArray.empty t0 1)] from (k38_mkM _ _ _ (⟨0, rdOf ByteArray.empty t0 1⟩ : S38) )) (Reps.c2 (show Kd.M k38 _ _ _ (⟨1, rdOf ByteArray.empty t0 1⟩ : S38) [.int .i64 1, .string (rdOf ByteArray.empty t0 1)] from (k38_mkM _ _ _ (⟨1, rdOf ByteArray.empty t0 1⟩ : S38) )) (Reps.none _ _))))
   intro v2 w2 ho1 hb hg_ hnew_
   have HS0_ := (hb.cell (World.block_lt_of_cell? _ _ (hHeld.1))).trans (hHeld.1)
   have HS1_ := (hb.cell (World.block_lt_of_cell? _ _ (hHeld.2))).trans (hHeld.2)
   clear hg_ hnew_
   (first | rw [← Ny1.out] at ho1 | (simp only [Int.reduceToNat] at ho1; rw [← Ny1.out] at ho1))
   replace O0 := sqU O0 hb
   have O2 := sqa (Kd.R_lower (Kd.R_newB (Kd.R_new' ho1 (Kd.R_lt (sqR O1))) (sqK B0)) (below_size (sqB1 HB E0)))
   replace O1 := sqa (Kd.R_elder' (sqR O1) (Kd.R_base ho1) hb)
   replace B0 := sqT B0 hb
   replace HB := sqS (sqB1 HB E0) hb
   clear hb ho1
   obtain ⟨Ao16, co16, eo0⟩ := Kd.R_slice O2.1
   (first | subst eo0 | (injection eo0 with f1_ f2_ f3_; have f4_ := f1_.symm; have f5_ := f3_.symm; clear f1_ f2_ f3_; subst f4_; subst f5_))
   refine hK.out _ _ ⟨HS0_, HS1_⟩ (fun hHeld => ?_)
   clear hK K
   refine sqN (some 25) ?_
   refine last_ (i := 10) (N := some 26) #[true, true, true, true, true, true, true, true, true, true, true, false] rfl rfl (one_of HT_.out (by kernel_rfl)) (by decide) (fun K hK => ?_)
   refine Kd.R_append_rows_step k38 (w0 := w) w.heap.size (by rfl) (.tmp 16) (.tmp 25) 52 38 (.agg #[(.int .i64 0), (.string ⟨#[]⟩)]) 24 rfl underlying52 info38 rfl (by decide) (by omega) v1 y0 y1 _ _ _ (fun k_ => some k_ ≠ (.slice Ao16 y1.length co16 : Value).ownBlock ∧ k_ ≠ g0) (fun _ => False) rfl rfl ?aO ?aR (fun _ _ h => h) (fun _ h => h.elim) ?aF ?aB ?aS ?aL ?_
   (case aR => exact Z7 O2)
   (case aB => exact (sqB1 HB E0))
   (case aF => exact (fun k_ hk => ⟨Kd.fresh' (Kd.R_lt (sqR O2)) k_ hk, Kd.freshB (sqK B0) k_ hk⟩))
   (case aO => exact (Z50 O1))
   (case aS => exact (below_size (sqB1 HB E0)))
   (case aL => exact Z2 LMc0)
   intro v3 w3 ho hb hg hat
   rw [← Ny2.out] at ho
   replace B0 := sqa (blk_grown (sqK B0) hg (Kd.R_away O1.1 (fun _ hk => hk.1.2)))
   replace O0 := sqa (Kd.R_over' (sqR O0) (Kd.R_typed (sqR O1)) (by decide) hg)
   replace O2 := sqa (Kd.R_after (ok := (fun k_ => k_ ≠ g0)) (Z50 O2) hg hat)
   replace HB := sqa (hb)
   have O3 := sqa (ho)
   clear O1
   clear ho hb hg hat
   refine hK.out _ _ ?_
   clear hK K
   refine sqN (some 26) ?_
   refine sqP 11 (some 5) (h := ?_)
   refine done_ (done_of HT_.out (by kernel_rfl)) ?_
   try go_wp2
   go_meet
   case rel => exact ⟨_, (y2), H', ⟨Z11⟩, ⟨Z51 O3⟩, ⟨sqK B0⟩, ⟨sqB1 HB E0⟩⟩
  (first | rw [c9b0] | (simp only [i64_w, i32_w]; rw [c9b0]) | skip)
  have H' := sqa H
  clear H
  go_wp2
  go_meet
  case rel => exact ⟨_, (y0), H', ⟨Z11⟩, ⟨Z51 O1⟩, ⟨sqK B0⟩, ⟨sqB1 HB E0⟩⟩
 case rest =>
  clear HC3
  obtain ⟨kq, x5_2, HA, HJ2, O4, B0, HB⟩ := hcut
  cases kq with
  | zero => exact absurd HA.out (by simp [F7.j0])
  | succ kj2 =>
   have H := HA.out
   clear HA
   simp only [F7.j0] at H
   have H' := sqa H
   clear H
   go_wp2
   go_loopg [6] kj2 (fun kq v6 w' => ∃ (x6_2 : Int) (x0 : Int) (x1 : ByteArray), v6 = .int .i64 x6_2 ∧ Aside0 (F7.l0 kq a0 x5_2 x6_2 = some (r1, r2, r3)) ∧ Aside0 (kq ≤ kj2) ∧ Aside0 (Kd.R k38 38 w' w.heap.size (fun k_ => k_ ≠ g0) u5 x5_2) ∧ Aside0 (w'.heap[g0]? = some (.cells #[.int .i64 x0, .string x1] 38 (0, 0))) ∧ Aside0 (Below w.heap.size w w'))
   case atStart => exact ⟨(0), (0), ((⟨#[]⟩ : ByteArray)), Z1, H', ⟨Nat.le_refl _⟩, ⟨sqR O4⟩, ⟨sqK B0⟩, ⟨sqB1 HB E0⟩⟩
   case round =>
    clear H'
    obtain ⟨x6_2, x0, x1, rfl, HA, HK2, O4, B0, HB⟩ := hrel
    cases gk with
    | zero => exact absurd HA.out (by simp [F7.l0])
    | succ k2 =>
     have H := HA.out
     clear HA
     simp only [F7.l0] at H
     obtain ⟨c5, H⟩ | ⟨c5, H⟩ := sqi3 H
     ·by_cases c6 : a0.toList = ([] : List UInt8)
      ·rw [if_pos c6] at H
       have c7 := sqe1 c6
       try have c8 : a0.toList.isEmpty = true := by (have h_ := c7; (repeat rw [sqy] at h_); exact h_)
       have c12 := sqn0 c6
       clear c6
       have H' := sqa H
       clear H
       obtain ⟨Ao0, co0, eo1⟩ := Kd.R_slice O4.1
       subst eo1
       go_wp2
       go_roundg k2
       case measure => have := HJ2.out; have := HK2.out; omega
       case rel => exact ⟨(wrap64 (x6_2 + 1)), (x0), (x1), Z1, H', ⟨Z21 HK2⟩, ⟨sqR O4⟩, ⟨sqK B0⟩, ⟨sqB1 HB E0⟩⟩
      rw [if_neg c6] at H
      have c7 := sqe0 c6
      try have c8 : a0.toList.isEmpty = false := by (have h_ := c7; (repeat rw [sqy] at h_); exact h_)
      have c12 := sqn1 c6
      obtain ⟨c13, H⟩ := sqJ2 H
      obtain ⟨t1, A0, H⟩ := sqD H
      obtain ⟨c15, c16, H⟩ | ⟨c15, c16, c22, H⟩ := sqi4 H
      ·obtain ⟨rfl, rfl, rfl⟩ := sqO3 H
       obtain ⟨Ao23, co23, eo2⟩ := Kd.R_slice O4.1
       subst eo2
       have p2 : 0 ≤ (x6_2 : Int) := of_decide_eq_true Z16
       have q2 : x6_2 < (x5_2.length : Int) := of_decide_eq_true Z16
       obtain ⟨ad2, e2, hx2, hx3⟩ := at_T38 (Kd.R_reads' O4.1).2.2 x6_2 p2 q2
       cases e2
       replace p2 := eq_true p2
       replace q2 := eq_true q2
       go_wp2_with (first | (go_at_call 122; (with_reducible refine (F23.c k2 ((rd_T38 x5_2 x6_2).f0) ((rd_T38 x5_2 x6_2).f1) t1 _ A0.1).mono ?_); rintro e w7 ⟨rfl, hb⟩; replace O4 := sqU O4 hb; replace B0 := sqT B0 hb; replace HB := sqS (sqB1 HB E0) hb; have p3 : 0 ≤ (x6_2 : Int) := of_decide_eq_true Z16; have q3 : x6_2 < (x5_2.length : Int) := of_decide_eq_true Z16; obtain ⟨ad3, e3, hx4, hx5⟩ := at_T38 (Kd.R_reads' O4.1).2.2 x6_2 p3 q3; obtain rfl : ad2 = ad3 := (by injection e3); replace p3 := eq_true p3; replace q3 := eq_true q3; have := sqY2 B0))
       refine sqE g0 38 #[.int .i64 ((rd_T38 x5_2 x6_2).f0), .string ((rd_T38 x5_2 x6_2).f1)] (by refine sqPut (cs := #[.int .i64 ((rd_T38 x5_2 x6_2).f0), .string x1]) ?_ 1; refine sqPut (cs := #[.int .i64 x0, .string x1]) ?_ 0; exact sqK B0) underlying38 ?_
       exact ⟨Z5, sqB1 HB E0⟩
      have H' := sqa H
      clear H
      obtain ⟨Ao1, co1, eo3⟩ := Kd.R_slice O4.1
      subst eo3
      have p2 : 0 ≤ (x6_2 : Int) := of_decide_eq_true Z16
      have q2 : x6_2 < (x5_2.length : Int) := of_decide_eq_true Z16
      obtain ⟨ad2, e2, hx2, hx3⟩ := at_T38 (Kd.R_reads' O4.1).2.2 x6_2 p2 q2
      cases e2
      replace p2 := eq_true p2
      replace q2 := eq_true q2
      go_wp2_with (first | (go_at_call 122; (with_reducible refine (F23.c k2 ((rd_T38 x5_2 x6_2).f0) ((rd_T38 x5_2 x6_2).f1) t1 _ A0.1).mono ?_); rintro e w8 ⟨rfl, hb⟩; replace O4 := sqU O4 hb; replace B0 := sqT B0 hb; replace HB := sqS (sqB1 HB E0) hb))
      go_roundg k2
      case measure => have := HJ2.out; have := HK2.out; omega
      case rel => exact ⟨(wrap64 (x6_2 + 1)), (x0), (x1), Z1, H', ⟨Z21 HK2⟩, ⟨sqR O4⟩, ⟨sqK B0⟩, ⟨sqB1 HB E0⟩⟩
     obtain ⟨rfl, rfl, rfl⟩ := sqO3 H
     obtain ⟨Ao2, co2, eo4⟩ := Kd.R_slice O4.1
     subst eo4
     have := sqY2 B0
     go_wp2
     refine sqE g0 38 #[.int .i64 0, .string (⟨#[]⟩ : ByteArray)] (by refine sqPut (cs := #[.int .i64 0, .string x1]) ?_ 1; refine sqPut (cs := #[.int .i64 x0, .string x1]) ?_ 0; exact sqK B0) underlying38 ?_
     exact ⟨Z5, sqB1 HB E0⟩

def F94.f (a0_0 : Int) (a0_1 : Int) : Option (Int) := if a0_1 = 0 then (none) else (if (wrap64 ((wrap64 (Int.tdiv a0_0 a0_1)) * a0_1)) > a0_0 then (some (wrap64 ((wrap64 (Int.tdiv a0_0 a0_1)) - 1))) else (some (wrap64 (Int.tdiv a0_0 a0_1))))
theorem F94.c (a0_0 : Int) (a0_1 : Int) (r : Int) (w : World) (H : F94.f a0_0 a0_1 = some r) :
  Calls prog 173 #[.agg #[.int .i64 a0_0, .int .i64 a0_1]] w fun e w' => e = .returned (.int .i64 r) ∧ Below w.heap.size w w' := by
 have hu31 := underlying31
 have HB := sqh w
 unfold F94.f at H
 obtain ⟨c2, H⟩ | ⟨c2, H⟩ := sqi2 H
 ·exact absurd H (by simp)
 have c2b0 : (a0_1 == 0) = false := sqe0 c2
 have c2b1 : (a0_1 != 0) = true := sqn1 c2
 obtain ⟨c3b0, H⟩ | ⟨c3b0, H⟩ := sqi3g H
 ·obtain rfl := sqo H
  go_enter func173, ntmps173
  go_wp2_with (first | ((with_reducible refine sqd 1 rfl ?_); refine sqx0 w (sqB HB) #[.int .i64 a0_0, .int .i64 a0_1] 31 fun g0 w4 B0 E0 HB => ?_; have := sqY2 B0))
  go_ret
  exact ⟨Z5, sqB1 HB E0⟩
 obtain rfl := sqo H
 go_enter func173, ntmps173
 go_wp2_with (first | ((with_reducible refine sqd 1 rfl ?_); refine sqx0 w (sqB HB) #[.int .i64 a0_0, .int .i64 a0_1] 31 fun g0 w6 B0 E0 HB => ?_; have := sqY2 B0))
 go_ret
 exact ⟨Z5, sqB1 HB E0⟩

end Go.Proofs.YtofmlbgfcohhoaaGreatDoor.PFnDeskSay
