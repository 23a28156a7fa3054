import Derived.Test.YtofmlbgfcohhoaaGreatDoorPFnExactDeskSayx9
set_option maxHeartbeats 8000000
set_option maxRecDepth 100000
namespace Go.Proofs.YtofmlbgfcohhoaaGreatDoor.PFnExactDeskSay
open Go.RowKit Go.Proofs.YtofmlbgfcohhoaaGreatDoorW.PrintWords Go.Proofs.YtofmlbgfcohhoaaGreatDoorW.PrintLast Go.Proofs.YtofmlbgfcohhoaaGreatDoorW.PrintMore Go.Proofs.YtofmlbgfcohhoaaGreatDoor.Lib Go.Proofs.Tryz
attribute [local go_sem] max2_int min2_int max_two min_two max_three min_three max_four min_four   -- for this text's walks alone
set_option linter.unusedVariables false
set_option linter.unusedSimpArgs false

attribute [local go_sem high] eqA38
/-! ### spec_DeedText: function 122 -/
mutual
def spec_DeedText.j0 : Nat → Bool → Bool → Int → ByteArray → Option (ByteArray)
 | 0, _, _, _, _ => none
 | k + 1, x4, x11, x0, x1 => if x11 = true then (if 6 + x1.size ≤ 9223372036854775807 then (some ((⟨#[100, 97, 110, 99, 101, 32]⟩ : ByteArray) ++ x1)) else (none)) else (if x0 = 1 then (spec_DeedText.j1 k x4 x0 x1) else (spec_DeedText.j1 k false x0 x1))
def spec_DeedText.j1 : Nat → Bool → Int → ByteArray → Option (ByteArray)
 | 0, _, _, _ => none
 | k + 1, x23, x0, x1 => if x23 = true then (if 5 + x1.size ≤ 9223372036854775807 then (some ((⟨#[116, 97, 107, 101, 32]⟩ : ByteArray) ++ x1)) else (none)) else (if (x0 == 2 && (x1.toList == ([] : List UInt8))) = true then (some (⟨#[109, 105, 114, 114, 111, 114]⟩ : ByteArray)) else (if (x0 == 3 && (x1.toList == ([] : List UInt8))) = true then (some (⟨#[117, 110, 116, 105, 101]⟩ : ByteArray)) else (if (x0 == 4 && (x1.toList == ([] : List UInt8))) = true then (some (⟨#[98, 97, 99, 107]⟩ : ByteArray)) else (some (⟨#[]⟩ : ByteArray)))))
end
def spec_DeedText.f (k : Nat) (a0_0 : Int) (a0_1 : ByteArray) : Option (ByteArray) := (spec_ReadFraction.f k a0_1).bind fun bt0 => (if a0_0 = 0 then ((spec_DanceOk.f k a0_1).bind fun t0 => (spec_DeedText.j0 k bt0.2.2 t0 a0_0 a0_1)) else (spec_DeedText.j0 k bt0.2.2 false a0_0 a0_1))
abbrev spec_DeedText.M (k : Nat) : Prop := (∀ y0 y1 y2 y3, LeO (spec_DeedText.j0 k y0 y1 y2 y3) (spec_DeedText.j0 (k + 1) y0 y1 y2 y3)) ∧ (∀ y0 y1 y2, LeO (spec_DeedText.j1 k y0 y1 y2) (spec_DeedText.j1 (k + 1) y0 y1 y2))
theorem spec_DeedText.mono_t : ∀ k, spec_DeedText.M k → spec_DeedText.M (k + 1) ∧ ∀ a0 a1, LeO (spec_DeedText.f k a0 a1) (spec_DeedText.f (k + 1) a0 a1) := by
  rintro k ⟨ih0, ih1⟩
  refine ⟨⟨?_, ?_⟩, ?_⟩ <;> intros <;> (first | unfold spec_DeedText.j0 | unfold spec_DeedText.j1 | unfold spec_DeedText.f) <;> repeat' (with_reducible first | exact ih0 _ _ _ _ | exact ih1 _ _ _ | exact spec_DanceOk.mono _ _ | exact spec_ReadFraction.mono _ _ | exact LeO.refl _ | exact LeO.none _ | refine LeO.ite ?_ ?_ | refine LeO.bind ?_ fun _ => ?_)
theorem spec_DeedText.mono_l : ∀ k, spec_DeedText.M k
 | 0 => ⟨fun _ _ _ _ r h => by simp [spec_DeedText.j0] at h, fun _ _ _ r h => by simp [spec_DeedText.j1] at h⟩
 | k + 1 => (spec_DeedText.mono_t k (spec_DeedText.mono_l k)).1
theorem spec_DeedText.mono a0 a1 k : LeO (spec_DeedText.f k a0 a1) (spec_DeedText.f (k + 1) a0 a1) := (spec_DeedText.mono_t k (spec_DeedText.mono_l k)).2 a0 a1
theorem spec_DeedText.calls (k : Nat) (a0_0 : Int) (a0_1 : ByteArray) (r : ByteArray) (w : World) (H : spec_DeedText.f k a0_0 a0_1 = some r) :
  Calls prog 122 #[.agg #[.int .i64 a0_0, .string a0_1]] w fun e w' => e = .returned (.string r) ∧ Below w.heap.size w w' := by
 have hu38 := underlying38
 have hu31 := underlying31
 have HB := sqh w
 unfold spec_DeedText.f at H
 obtain ⟨⟨t287, t0, t1⟩, A2, H⟩ := sqD H
 try dsimp only at H
 have HC3 := sqa H
 clear H
 go_enter func122, ntmps122
 go_upto_region 2 with (first | ((with_reducible refine sqd 1 rfl ?_); refine sqBx w (sqB HB) (cs := #[.int .i64 a0_0, .string a0_1]) (t := 38) ?_; intro g0 hg w4 B0 E0 HB hb; clear hb hg; obtain ⟨_, _, _, _⟩ := sqY2 B0) | ((with_reducible refine sqc 107 rfl ?_); refine sqC (some 8) func107 #[.string a0_1] ?_; (with_reducible refine (spec_ReadFraction.calls k a0_1 t287 t0 t1 _ A2.1).mono ?_); refine sqV fun w6 hb => ?_; replace B0 := sqT B0 hb; replace HB := sqS (sqB1 HB E0) hb; (try clear hb)) | ((with_reducible refine sqd 3 rfl ?_); refine sqBx w (sqB1 HB E0) (cs := #[.int .i64 0, .int .i64 0]) (t := 31) ?_; intro g1 hg w7 B2 E1 HB hb; obtain ⟨N0, N1⟩ := sqM hg B0; replace B0 := sqT B0 hb; clear hb hg; have := N1.1; have := N0.1; obtain ⟨_, _, _, _⟩ := sqY2 B2))
 (try simp only [Act.put, List.setIfInBounds_toArray, List.set_cons_zero, List.set_cons_succ])
 go_cut [11] (fun v11 wc => ∃ (kq : Nat) (x11_2 : Bool), v11 = .bool x11_2 ∧ Aside0 (spec_DeedText.j0 kq t1 x11_2 a0_0 a0_1 = some r) ∧ Aside0 (kq ≤ k) ∧ Aside0 (wc.heap[g0]? = some (.cells #[.int .i64 a0_0, .string a0_1] 38 (0, 0))) ∧ Aside0 (wc.heap[g1]? = some (.cells #[.int .i64 t287, .int .i64 t0] 31 (0, 0))) ∧ Aside0 (Below w.heap.size w wc))
 case first =>
  have H := HC3.1
  clear HC3
  by_cases c10 : a0_0 = 0
  ·rw [if_pos c10] at H
   have c10b0 : (a0_0 == 0) = true := sqe1 c10
   have c10b1 : (a0_0 != 0) = false := sqn0 c10
   clear c10
   (first | rw [c10b0] | (simp only [i64_w, i32_w]; rw [c10b0]) | skip)
   obtain ⟨t2, A11, H⟩ := sqD H
   have H' := sqa H
   clear H
   have := N0.1
   have := N1.1
   obtain ⟨_, _, _, _⟩ := sqY2 B0
   go_wp2_with (first | (go_at_call 134; (with_reducible refine (spec_DanceOk.calls k a0_1 t2 _ A11.1).mono ?_); rintro e w' ⟨rfl, ⟨nd, rfl⟩⟩))
   go_meet
   case rel => exact ⟨_, (t2), Z4, H', ⟨Z5⟩, ⟨Z11 N0 B0⟩, ⟨Z96 B2⟩, ⟨sqB2 HB E0 E1⟩⟩
  rw [if_neg c10] at H
  have c10b0 : (a0_0 == 0) = false := sqe0 c10
  have c10b1 : (a0_0 != 0) = true := sqn1 c10
  (first | rw [c10b0] | (simp only [i64_w, i32_w]; rw [c10b0]) | skip)
  have H' := sqa H
  clear H
  have := N0.1
  have := N1.1
  obtain ⟨_, _, _, _⟩ := sqY2 B0
  go_wp2
  go_meet
  case rel => exact ⟨_, (false), Z4, H', ⟨Z5⟩, ⟨Z11 N0 B0⟩, ⟨Z96 B2⟩, ⟨sqB2 HB E0 E1⟩⟩
 case rest =>
  clear HC3
  obtain ⟨kq, x11_2, rfl, HA, HJ2, B0, B2, HB⟩ := hcut
  cases kq with
  | zero => exact absurd HA.out (by simp [spec_DeedText.j0])
  | succ kj2 =>
   have H := HA.out
   clear HA
   simp only [spec_DeedText.j0] at H
   by_cases c16 : x11_2 = true
   ·subst c16
    rw [if_pos rfl] at H
    obtain ⟨c17, H⟩ := sqI H
    have c17b0 := eq_true c17
    have c17b1 : decide (6 + a0_1.size ≤ 9223372036854775807) = true := decide_eq_true c17
    try have c17b2 : (9223372036854775807 < 6 + a0_1.size) = False := eq_false (Nat.not_lt.2 c17)
    obtain rfl := sqo H
    have := N0.1
    have := N1.1
    obtain ⟨_, _, _, _⟩ := sqY2 B0
    go_wp2
    go_ret
    exact ⟨Z16, sqB2 HB E0 E1⟩
   obtain rfl := sqb c16
   rw [if_neg sqF] at H
   have HC20 := sqa H
   clear H
   go_upto_region 4 with (fail)
   go_cut [23] (fun v23 wc => ∃ (kq : Nat) (x23_19 : Bool), v23 = .bool x23_19 ∧ Aside0 (spec_DeedText.j1 kq x23_19 a0_0 a0_1 = some r) ∧ Aside0 (kq ≤ kj2) ∧ Aside0 (wc.heap[g0]? = some (.cells #[.int .i64 a0_0, .string a0_1] 38 (0, 0))) ∧ Aside0 (wc.heap[g1]? = some (.cells #[.int .i64 t287, .int .i64 t0] 31 (0, 0))) ∧ Aside0 (Below w.heap.size w wc))
   case first =>
    have H := HC20.1
    clear HC20
    by_cases c21 : a0_0 = 1
    ·rw [if_pos c21] at H
     have c21b0 : (a0_0 == 1) = true := sqe1 c21
     have c21b1 : (a0_0 != 1) = false := sqn0 c21
     clear c21
     (first | rw [c21b0] | (simp only [i64_w, i32_w]; rw [c21b0]) | skip)
     have H' := sqa H
     clear H
     have := N0.1
     have := N1.1
     obtain ⟨_, _, _, _⟩ := sqY2 B0
     go_wp2
     go_meet
     case rel => exact ⟨_, (t1), Z4, H', ⟨Z97⟩, ⟨sqK B0⟩, ⟨sqK B2⟩, ⟨sqB2 HB E0 E1⟩⟩
    rw [if_neg c21] at H
    have c21b0 : (a0_0 == 1) = false := sqe0 c21
    have c21b1 : (a0_0 != 1) = true := sqn1 c21
    (first | rw [c21b0] | (simp only [i64_w, i32_w]; rw [c21b0]) | skip)
    have H' := sqa H
    clear H
    have := N0.1
    have := N1.1
    obtain ⟨_, _, _, _⟩ := sqY2 B0
    go_wp2
    go_meet
    case rel => exact ⟨_, (false), Z4, H', ⟨Z97⟩, ⟨sqK B0⟩, ⟨sqK B2⟩, ⟨sqB2 HB E0 E1⟩⟩
   case rest =>
    clear HC20
    obtain ⟨kq, x23_19, rfl, HA, HJ19, B0, B2, HB⟩ := hcut
    cases kq with
    | zero => exact absurd HA.out (by simp [spec_DeedText.j1])
    | succ kj19 =>
     have H := HA.out
     clear HA
     simp only [spec_DeedText.j1] at H
     by_cases c26 : x23_19 = true
     ·subst c26
      rw [if_pos rfl] at H
      obtain ⟨c27, H⟩ := sqI H
      have c27b0 := eq_true c27
      have c27b1 : decide (5 + a0_1.size ≤ 9223372036854775807) = true := decide_eq_true c27
      try have c27b2 : (9223372036854775807 < 5 + a0_1.size) = False := eq_false (Nat.not_lt.2 c27)
      obtain rfl := sqo H
      have := N0.1
      have := N1.1
      obtain ⟨_, _, _, _⟩ := sqY2 B0
      go_wp2
      go_ret
      exact ⟨Z16, sqB2 HB E0 E1⟩
     obtain rfl := sqb c26
     rw [if_neg sqF] at H
     by_cases c30 : (a0_0 == 2 && (a0_1.toList == ([] : List UInt8))) = true
     ·rw [if_pos c30] at H
      have c30b0 : (a0_0 == 2 && (a0_1.toList == ([] : List UInt8))) = true := c30
      try have c30b8 : (a0_0 == 2 && a0_1.toList.isEmpty) = true := by (have h_ := c30b0; (repeat rw [show ∀ z : List UInt8, (z == ([] : List UInt8)) = z.isEmpty from fun z => by cases z <;> rfl] at h_); exact h_)
      (try (have c30b1 : decide (a0_0 = 2 && (a0_1.toList == ([] : List UInt8))) = true := by simpa using c30))
      (try (have c30b2 : (a0_0 == 2 && (a0_1.toList == ([] : List UInt8))) = true := by simpa using c30))
      clear c30
      obtain rfl := sqo H
      have := N0.1
      have := N1.1
      obtain ⟨_, _, _, _⟩ := sqY2 B0
      go_wp2
      go_ret
      exact ⟨Z16, sqB2 HB E0 E1⟩
     rw [if_neg c30] at H
     have c30b0 : (a0_0 == 2 && (a0_1.toList == ([] : List UInt8))) = false := by simpa using c30
     try have c30b8 : (a0_0 == 2 && a0_1.toList.isEmpty) = false := by (have h_ := c30b0; (repeat rw [show ∀ z : List UInt8, (z == ([] : List UInt8)) = z.isEmpty from fun z => by cases z <;> rfl] at h_); exact h_)
     (try (have c30b1 : decide (a0_0 = 2 && (a0_1.toList == ([] : List UInt8))) = false := by simpa using c30))
     (try (have c30b2 : (a0_0 == 2 && (a0_1.toList == ([] : List UInt8))) = false := by simpa using c30))
     (try (have c30b3 : ¬ (a0_0 = 2 && (a0_1.toList == ([] : List UInt8))) := by simpa using c30))
     clear c30
     by_cases c33 : (a0_0 == 3 && (a0_1.toList == ([] : List UInt8))) = true
     ·rw [if_pos c33] at H
      have c33b0 : (a0_0 == 3 && (a0_1.toList == ([] : List UInt8))) = true := c33
      try have c33b8 : (a0_0 == 3 && a0_1.toList.isEmpty) = true := by (have h_ := c33b0; (repeat rw [show ∀ z : List UInt8, (z == ([] : List UInt8)) = z.isEmpty from fun z => by cases z <;> rfl] at h_); exact h_)
      (try (have c33b1 : decide (a0_0 = 3 && (a0_1.toList == ([] : List UInt8))) = true := by simpa using c33))
      (try (have c33b2 : (a0_0 == 3 && (a0_1.toList == ([] : List UInt8))) = true := by simpa using c33))
      clear c33
      obtain rfl := sqo H
      have := N0.1
      have := N1.1
      obtain ⟨_, _, _, _⟩ := sqY2 B0
      go_wp2
      go_ret
      exact ⟨Z16, sqB2 HB E0 E1⟩
     rw [if_neg c33] at H
     have c33b0 : (a0_0 == 3 && (a0_1.toList == ([] : List UInt8))) = false := by simpa using c33
     try have c33b8 : (a0_0 == 3 && a0_1.toList.isEmpty) = false := by (have h_ := c33b0; (repeat rw [show ∀ z : List UInt8, (z == ([] : List UInt8)) = z.isEmpty from fun z => by cases z <;> rfl] at h_); exact h_)
     (try (have c33b1 : decide (a0_0 = 3 && (a0_1.toList == ([] : List UInt8))) = false := by simpa using c33))
     (try (have c33b2 : (a0_0 == 3 && (a0_1.toList == ([] : List UInt8))) = false := by simpa using c33))
     (try (have c33b3 : ¬ (a0_0 = 3 && (a0_1.toList == ([] : List UInt8))) := by simpa using c33))
     clear c33
     by_cases c36 : (a0_0 == 4 && (a0_1.toList == ([] : List UInt8))) = true
     ·rw [if_pos c36] at H
      have c36b0 : (a0_0 == 4 && (a0_1.toList == ([] : List UInt8))) = true := c36
      try have c36b8 : (a0_0 == 4 && a0_1.toList.isEmpty) = true := by (have h_ := c36b0; (repeat rw [show ∀ z : List UInt8, (z == ([] : List UInt8)) = z.isEmpty from fun z => by cases z <;> rfl] at h_); exact h_)
      (try (have c36b1 : decide (a0_0 = 4 && (a0_1.toList == ([] : List UInt8))) = true := by simpa using c36))
      (try (have c36b2 : (a0_0 == 4 && (a0_1.toList == ([] : List UInt8))) = true := by simpa using c36))
      clear c36
      obtain rfl := sqo H
      have := N0.1
      have := N1.1
      obtain ⟨_, _, _, _⟩ := sqY2 B0
      go_wp2
      go_ret
      exact ⟨Z16, sqB2 HB E0 E1⟩
     rw [if_neg c36] at H
     have c36b0 : (a0_0 == 4 && (a0_1.toList == ([] : List UInt8))) = false := by simpa using c36
     try have c36b8 : (a0_0 == 4 && a0_1.toList.isEmpty) = false := by (have h_ := c36b0; (repeat rw [show ∀ z : List UInt8, (z == ([] : List UInt8)) = z.isEmpty from fun z => by cases z <;> rfl] at h_); exact h_)
     (try (have c36b1 : decide (a0_0 = 4 && (a0_1.toList == ([] : List UInt8))) = false := by simpa using c36))
     (try (have c36b2 : (a0_0 == 4 && (a0_1.toList == ([] : List UInt8))) = false := by simpa using c36))
     (try (have c36b3 : ¬ (a0_0 = 4 && (a0_1.toList == ([] : List UInt8))) := by simpa using c36))
     clear c36
     obtain rfl := sqo H
     have := N0.1
     have := N1.1
     obtain ⟨_, _, _, _⟩ := sqY2 B0
     go_wp2
     go_ret
     exact ⟨Z16, sqB2 HB E0 E1⟩

/-! ### spec_ReadDeed: function 86 -/
mutual
def spec_ReadDeed.j0 : Nat → ByteArray → List (S38) → Option (Int × ByteArray × Bool)
 | 0, _, _ => none
 | k + 1, x0, x5 => spec_ReadDeed.l0 k x0 x5 0
def spec_ReadDeed.l0 : Nat → ByteArray → List (S38) → Int → Option (Int × ByteArray × Bool)
 | 0, _, _, _ => none
 | k + 1, x0, x5, x6 => if x6 < (x5.length : Int) then (if x0.toList = ([] : List UInt8) then (spec_ReadDeed.l0 k x0 x5 (wrap64 (x6 + 1))) else (if 0 ≤ x6 then ((spec_DeedText.f k ((rd_T38 x5 x6).f0) ((rd_T38 x5 x6).f1)).bind fun t0 => (if t0.toList = x0.toList then (some ((rd_T38 x5 x6).f0, (rd_T38 x5 x6).f1, true)) else (spec_ReadDeed.l0 k x0 x5 (wrap64 (x6 + 1))))) else (none))) else (some (0, (⟨#[]⟩ : ByteArray), false))
end
def spec_ReadDeed.f (k : Nat) (a0 : ByteArray) : Option (Int × ByteArray × Bool) := (spec_l1Cut.f k a0 32).bind fun t0 => ((some (([(⟨2, (⟨#[]⟩ : ByteArray)⟩ : S38), (⟨3, (⟨#[]⟩ : ByteArray)⟩ : S38), (⟨4, (⟨#[]⟩ : ByteArray)⟩ : S38)] : List (S38)) : List (S38))).bind fun y0 => (if (t0.length : Int) = 2 then (if 1 < (t0.length : Int) then ((some (([(⟨0, rdOf ByteArray.empty t0 1⟩ : S38), (⟨1, rdOf ByteArray.empty t0 1⟩ : S38)] : List (S38)) : List (S38))).bind fun y1 => (if y0.length + y1.length < 5864062014805 then (spec_ReadDeed.j0 k a0 (y0 ++ y1)) else (none))) else (none)) else (spec_ReadDeed.j0 k a0 y0)))
abbrev spec_ReadDeed.M (k : Nat) : Prop := (∀ y0 y1, LeO (spec_ReadDeed.j0 k y0 y1) (spec_ReadDeed.j0 (k + 1) y0 y1)) ∧ (∀ y0 y1 y2, LeO (spec_ReadDeed.l0 k y0 y1 y2) (spec_ReadDeed.l0 (k + 1) y0 y1 y2))
theorem spec_ReadDeed.mono_t : ∀ k, spec_ReadDeed.M k → spec_ReadDeed.M (k + 1) ∧ ∀ a0, LeO (spec_ReadDeed.f k a0) (spec_ReadDeed.f (k + 1) a0) := by
  rintro k ⟨ih0, ih1⟩
  refine ⟨⟨?_, ?_⟩, ?_⟩ <;> intros <;> (first | unfold spec_ReadDeed.j0 | unfold spec_ReadDeed.l0 | unfold spec_ReadDeed.f) <;> repeat' (with_reducible first | exact ih0 _ _ | exact ih1 _ _ _ | exact spec_DeedText.mono _ _ _ | exact spec_l1Cut.mono _ _ _ | exact LeO.refl _ | exact LeO.none _ | refine LeO.ite ?_ ?_ | refine LeO.bind ?_ fun _ => ?_)
theorem spec_ReadDeed.mono_l : ∀ k, spec_ReadDeed.M k
 | 0 => ⟨fun _ _ r h => by simp [spec_ReadDeed.j0] at h, fun _ _ _ r h => by simp [spec_ReadDeed.l0] at h⟩
 | k + 1 => (spec_ReadDeed.mono_t k (spec_ReadDeed.mono_l k)).1
theorem spec_ReadDeed.mono a0 k : LeO (spec_ReadDeed.f k a0) (spec_ReadDeed.f (k + 1) a0) := (spec_ReadDeed.mono_t k (spec_ReadDeed.mono_l k)).2 a0
def spec_ReadDeed.T4 : Bool × List (List Nat × List Nat) := (true, [([], []), ([], []), ([1], [1]), ([2], [2]), ([3], [3]), ([], []), ([5], [5]), ([6], [6]), ([7], [7]), ([4, 8], [4, 8]), ([0, 9], [0, 9]), ([10, 10, 0, 1, 2, 3, 4, 5, 6, 7, 8, 9, 10], [0, 10])])
def spec_ReadDeed.B4 : List Nat := [0, 0, 2, 6, 14, 0, 32, 96, 224, 510, 1023, 2047]
theorem spec_ReadDeed.tab4 : rtab .any (opsOf f86 4) = spec_ReadDeed.T4 := by kernel_rfl
theorem spec_ReadDeed.bits4 : waitsOk spec_ReadDeed.T4.2 spec_ReadDeed.B4 = true := by kernel_rfl
theorem spec_ReadDeed.calls (k : Nat) (a0 : ByteArray) (r1 : Int) (r2 : ByteArray) (r3 : Bool) (w : World) (H : spec_ReadDeed.f k a0 = some (r1, r2, r3)) :
  Calls prog 86 #[.string a0] w fun e w' => e = .returned (.tuple #[.agg #[.int .i64 r1, .string r2], .bool r3]) ∧ Below w.heap.size w w' := by
 have hu38 := underlying38
 have HB := sqh w
 unfold spec_ReadDeed.f at H
 obtain ⟨t0, A2, H⟩ := sqD H
 obtain ⟨y0, hy0⟩ : ∃ y_ : List (S38), y_ = (([(⟨2, (⟨#[]⟩ : ByteArray)⟩ : S38), (⟨3, (⟨#[]⟩ : ByteArray)⟩ : S38), (⟨4, (⟨#[]⟩ : ByteArray)⟩ : S38)] : List (S38))) := ⟨_, rfl⟩
 replace H : (if (t0.length : Int) = 2 then (if 1 < (t0.length : Int) then ((some (([(⟨0, rdOf ByteArray.empty t0 1⟩ : S38), (⟨1, rdOf ByteArray.empty t0 1⟩ : S38)] : List (S38)) : List (S38))).bind fun y1 => (if y0.length + y1.length < 5864062014805 then (spec_ReadDeed.j0 k a0 (y0 ++ y1)) else (none))) else (none)) else (spec_ReadDeed.j0 k a0 y0)) = some (r1, r2, r3) := sqW hy0 H
 have Ny0 := sqa hy0
 clear hy0
 have HC3 := sqa H
 clear H
 go_enter func86, ntmps86
 go_upto_if 15 with (first | ((with_reducible refine sqd 2 rfl ?_); refine sqBx w (sqB HB) (cs := #[.int .i64 0, .string (⟨#[]⟩ : ByteArray)]) (t := 38) ?_; intro g0 hg w4 B0 E0 HB hb; clear hb hg) | ((with_reducible refine sqc 99 rfl ?_); refine sqC (some 8) func99 #[.string a0, .int .u8 32] ?_; (with_reducible refine (spec_l1Cut.calls k a0 32 t0 _ A2.1).mono ?_); rintro e w5 ⟨v0, rfl, ho0, hb⟩; refine ⟨_, rfl, ?_⟩; have O0 := sqL ho0 (sqB1 HB E0); replace B0 := sqT B0 hb; replace HB := sqS (sqB1 HB E0) hb; (try clear hb); (try clear ho0)) | ((with_reducible refine sqd 12 rfl ?_); refine Kd.R_lit k38 _ 38 ?hg (N := 12) ?hd (xs := ([(⟨2, (⟨#[]⟩ : ByteArray)⟩ : S38), (⟨3, (⟨#[]⟩ : ByteArray)⟩ : S38), (⟨4, (⟨#[]⟩ : ByteArray)⟩ : S38)] : List (S38))) (inner := [.int .i64 2, .string (⟨#[]⟩ : ByteArray), .int .i64 3, .string (⟨#[]⟩ : ByteArray), .int .i64 4, .string (⟨#[]⟩ : ByteArray)]) (ok := fun _ => True) (okp := fun _ => True) ?hr ?hp (fun _ hk => hk) trivial (Below.refl _ _) (Nat.le_refl _) (by simp) ?_; (case hd => rfl); (case hg => rfl); (case hr => exact Z10); (case hp => exact (Reps.c2 (show Kd.M k38 _ _ _ (⟨2, (⟨#[]⟩ : ByteArray)⟩ : S38) [.int .i64 2, .string (⟨#[]⟩ : ByteArray)] from (k38_mkM _ _ _ (⟨2, (⟨#[]⟩ : ByteArray)⟩ : S38) )) (Reps.c2 (show Kd.M k38 _ _ _ (⟨3, (⟨#[]⟩ : ByteArray)⟩ : S38) [.int .i64 3, .string (⟨#[]⟩ : ByteArray)] from (k38_mkM _ _ _ (⟨3, (⟨#[]⟩ : ByteArray)⟩ : S38) )) (Reps.c2 (show Kd.M k38 _ _ _ (⟨4, (⟨#[]⟩ : ByteArray)⟩ : S38) [.int .i64 4, .string (⟨#[]⟩ : ByteArray)] from (k38_mkM _ _ _ (⟨4, (⟨#[]⟩ : ByteArray)⟩ : S38) )) (Reps.none _ _))))); intro v1 w6 ho7 hb hg_ hnew_; clear hg_ hnew_; (first | rw [← Ny0.out] at ho7 | (simp only [Int.reduceToNat] at ho7; rw [← Ny0.out] at ho7)); replace O0 := sqU O0 hb; have O1 := sqa (Kd.R_lower (Kd.R_newB ho7 (sqK B0)) (below_size (sqB1 HB E0))); replace B0 := sqT B0 hb; replace HB := sqS (sqB1 HB E0) hb; clear hb ho7; obtain ⟨Ao8, co8, eo8⟩ := Kd.R_slice O0.1; subst eo8))
 (try simp only [Act.put, List.setIfInBounds_toArray, List.set_cons_zero, List.set_cons_succ])
 go_cut [5] (fun v5 wc => ∃ (kq : Nat) (x5_2 : List (S38)), Aside0 (spec_ReadDeed.j0 kq a0 x5_2 = some (r1, r2, r3)) ∧ Aside0 (kq ≤ k) ∧ Aside0 (Kd.R k38 38 wc w.heap.size (fun k_ => k_ ≠ g0) v5 x5_2) ∧ Aside0 (wc.heap[g0]? = some (.cells #[.int .i64 0, .string (⟨#[]⟩ : ByteArray)] 38 (0, 0))) ∧ Aside0 (Below w.heap.size w wc))
 case first =>
  have H := HC3.1
  clear HC3
  by_cases c9 : (t0.length : Int) = 2
  ·rw [if_pos c9] at H
   have c9b0 : ((t0.length : Int) == 2) = true := sqe1 c9
   have c9b1 : ((t0.length : Int) != 2) = false := sqn0 c9
   clear c9
   (first | rw [c9b0] | (simp only [i64_w, i32_w]; rw [c9b0]) | skip)
   obtain ⟨c10, H⟩ := sqI H
   have c10b0 : decide (1 < (t0.length : Int)) = true := decide_eq_true c10
   have c10b1 : decide (1 < t0.length) = true := decide_eq_true (by omega)
   clear c10
   obtain ⟨y1, hy1⟩ : ∃ y_ : List (S38), y_ = (([(⟨0, rdOf ByteArray.empty t0 1⟩ : S38), (⟨1, rdOf ByteArray.empty t0 1⟩ : S38)] : List (S38))) := ⟨_, rfl⟩
   replace H : (if y0.length + y1.length < 5864062014805 then (spec_ReadDeed.j0 k a0 (y0 ++ y1)) else (none)) = some (r1, r2, r3) := sqW hy1 H
   have Ny1 := sqa hy1
   clear hy1
   obtain ⟨c11, H⟩ := sqI H
   have LMc11 := sqa c11
   clear c11
   obtain ⟨y2, hy2⟩ : ∃ y_ : List (S38), y_ = (y0 ++ y1) := ⟨_, rfl⟩
   replace H : (spec_ReadDeed.j0 k a0 y2) = some (r1, r2, r3) := sqW hy2 H
   have Ny2 := sqa hy2
   clear hy2
   have H' := sqa H
   clear H
   try go_wp2
   replace O0 := sqa (Kd.R_drew O0.1)
   replace O1 := sqa (Kd.R_drew O1.1)
   replace B0 := sqa (blk_drew B0.1)
   replace HB := sqa (below_drew1 HB.1)
   have p0 : 0 ≤ (1 : Int) := (by omega)
   have q0 : 1 < (t0.length : Int) := of_decide_eq_true Z9
   obtain ⟨ad0, e0, hx0⟩ := Kd.at_string (Kd.R_reads' O0.1).2.2 1 p0 q0
   cases e0
   (try simp only [show (1 : Int).toNat = 1 from rfl, Nat.reduceMul, Nat.reduceEqDiff, Go.Addr.add, ↓reduceIte] at hx0)
   have qi0 : (1 < t0.length) = True := eq_true (by omega)
   (try rw [show ((1 : Int)).toNat = 1 from rfl] at hx0)
   replace p0 := eq_true p0
   replace q0 := eq_true q0
   have p1 : 0 ≤ (1 : Int) := (by omega)
   have q1 : 1 < (t0.length : Int) := of_decide_eq_true Z9
   obtain ⟨ad1, e1, hx1⟩ := Kd.at_string (Kd.R_reads' O0.1).2.2 1 p1 q1
   obtain rfl : ad0 = ad1 := (by injection e1)
   (try simp only [show (1 : Int).toNat = 1 from rfl, Nat.reduceMul, Nat.reduceEqDiff, Go.Addr.add, ↓reduceIte] at hx1)
   have qi1 : (1 < t0.length) = True := eq_true (by omega)
   (try rw [show ((1 : Int)).toNat = 1 from rfl] at hx1)
   replace p1 := eq_true p1
   replace q1 := eq_true q1
   refine start_ (n := 12) (S := fun w' => w'.cell? ⟨ad0.block, ad0.off + 1, none⟩ = some (.string (rdOf ByteArray.empty t0 1)) ∧ w'.cell? ⟨ad0.block, ad0.off + 1, none⟩ = some (.string (rdOf ByteArray.empty t0 1))) (ds := [10]) #[false, false, false, false, false, false, false, false, false, false, false, false] (by kernel_rfl) rfl rfl ⟨hx0, hx1⟩ (fun hHeld => ?_); refine with_tabW spec_ReadDeed.tab4 spec_ReadDeed.bits4 (fun HT_ HW_ => ?_)
   generalize w6.drew = w12 at O0 O1 B0 HB hx0 hx1 hHeld ⊢
   refine sqP 0 (some 16) (h := ?_)
   refine sqP 1 (some 17) (h := ?_)
   refine sqP 2 (some 18) (h := ?_)
   refine sqP 5 (some 21) (h := ?_)
   refine sqP 6 (some 22) (h := ?_)
   refine sqQ 3 (some 19) hHeld (h := ?_)
   refine sqP 4 (some 20) (h := ?_)
   refine sqQ 7 (some 23) hHeld (h := ?_)
   refine sqP 8 (some 24) (h := ?_)
   refine one_ (i := 9) (N := some 25) #[true, true, true, true, true, true, true, true, true, true, false, false] rfl rfl (one_of HT_.out (by kernel_rfl)) (by decide) (fun K hK => ?_)
   refine Kd.R_lit_step k38 _ 38 ?hg (N := 25) ?hd (xs := ([(⟨0, rdOf ByteArray.empty t0 1⟩ : S38), (⟨1, rdOf ByteArray.empty t0 1⟩ : S38)] : List (S38))) (inner := [.int .i64 0, .string (rdOf ByteArray.empty t0 1), .int .i64 1, .string (rdOf ByteArray.empty t0 1)]) (ok := fun _ => True) (okp := fun _ => True) ?hr ?hp (fun _ hk => hk) trivial (Below.refl _ _) (Nat.le_refl _) (by simp) ?_; (case hd => rfl); (case hg => rfl); (case hr => exact Z10); (case hp => exact (Reps.c2 (show Kd.M k38 _ _ _ (⟨0, rdOf ByteArray.empty t0 1⟩ : S38) [.int .i64 0, .string (rdOf ByteArray.empty t0 1)] from (k38_mkM _ _ _ (⟨0, rdOf ByteArray.empty t0 1⟩ : S38) )) (Reps.c2 (show Kd.M k38 _ _ _ (⟨1, rdOf ByteArray.empty t0 1⟩ : S38) [.int .i64 1, .string (rdOf ByteArray.empty t0 1)] from (k38_mkM _ _ _ (⟨1, rdOf ByteArray.empty t0 1⟩ : S38) )) (Reps.none _ _))))
   intro v2 w13 ho14 hb hg_ hnew_
   have HS0_ := (hb.cell (World.block_lt_of_cell? _ _ (hHeld.1))).trans (hHeld.1)
   have HS1_ := (hb.cell (World.block_lt_of_cell? _ _ (hHeld.2))).trans (hHeld.2)
   clear hg_ hnew_
   (first | rw [← Ny1.out] at ho14 | (simp only [Int.reduceToNat] at ho14; rw [← Ny1.out] at ho14))
   replace O0 := sqU O0 hb
   have O2 := sqa (Kd.R_lower (Kd.R_newB (Kd.R_new' ho14 (Kd.R_lt (sqR O1))) (sqK B0)) (below_size (sqB1 HB E0)))
   replace O1 := sqa (Kd.R_elder' (sqR O1) (Kd.R_base ho14) hb)
   replace B0 := sqT B0 hb
   replace HB := sqS (sqB1 HB E0) hb
   clear hb ho14
   obtain ⟨Ao16, co16, eo16⟩ := Kd.R_slice O2.1
   (first | subst eo16 | (injection eo16 with f1_ f2_ f3_; have f4_ := f1_.symm; have f5_ := f3_.symm; clear f1_ f2_ f3_; subst f4_; subst f5_))
   refine hK.out _ _ ⟨HS0_, HS1_⟩ (fun hHeld => ?_)
   clear hK K
   refine sqN (some 25) ?_
   refine last_ (i := 10) (N := some 26) #[true, true, true, true, true, true, true, true, true, true, true, false] rfl rfl (one_of HT_.out (by kernel_rfl)) (by decide) (fun K hK => ?_)
   refine Kd.R_append_rows_step k38 (w0 := w) w.heap.size (by rfl) (.tmp 16) (.tmp 25) 52 38 (.agg #[(.int .i64 0), (.string ⟨#[]⟩)]) 24 rfl underlying52 info38 rfl (by decide) (by omega) v1 y0 y1 _ _ _ (fun k_ => some k_ ≠ (.slice Ao16 y1.length co16 : Value).ownBlock ∧ k_ ≠ g0) (fun _ => False) rfl rfl ?aO ?aR (fun _ _ h => h) (fun _ h => h.elim) ?aF ?aB ?aS ?aL ?_
   (case aR => exact Z29 O2)
   (case aB => exact (sqB1 HB E0))
   (case aF => exact (fun k_ hk => ⟨Kd.fresh' (Kd.R_lt (sqR O2)) k_ hk, Kd.freshB (sqK B0) k_ hk⟩))
   (case aO => exact (Z98 O1))
   (case aS => exact (below_size (sqB1 HB E0)))
   (case aL => exact Z17 LMc11)
   intro v3 w15 ho hb hg hat
   rw [← Ny2.out] at ho
   replace B0 := sqa (blk_grown (sqK B0) hg (Kd.R_away O1.1 (fun _ hk => hk.1.2)))
   replace O0 := sqa (Kd.R_over' (sqR O0) (Kd.R_typed (sqR O1)) (by decide) hg)
   replace O2 := sqa (Kd.R_after (ok := (fun k_ => k_ ≠ g0)) (Z98 O2) hg hat)
   replace HB := sqa (hb)
   have O3 := sqa (ho)
   clear O1
   clear ho hb hg hat
   refine hK.out _ _ ?_
   clear hK K
   refine sqN (some 26) ?_
   refine sqP 11 (some 5) (h := ?_)
   refine done_ (done_of HT_.out (by kernel_rfl)) ?_
   try go_wp2
   go_meet
   case rel => exact ⟨_, (y2), H', ⟨Z5⟩, ⟨Z33 O3⟩, ⟨sqK B0⟩, ⟨sqB1 HB E0⟩⟩
  rw [if_neg c9] at H
  have c9b0 : ((t0.length : Int) == 2) = false := sqe0 c9
  have c9b1 : ((t0.length : Int) != 2) = true := sqn1 c9
  (first | rw [c9b0] | (simp only [i64_w, i32_w]; rw [c9b0]) | skip)
  have H' := sqa H
  clear H
  go_wp2
  go_meet
  case rel => exact ⟨_, (y0), H', ⟨Z5⟩, ⟨Z33 O1⟩, ⟨sqK B0⟩, ⟨sqB1 HB E0⟩⟩
 case rest =>
  clear HC3
  obtain ⟨kq, x5_2, HA, HJ2, O4, B0, HB⟩ := hcut
  cases kq with
  | zero => exact absurd HA.out (by simp [spec_ReadDeed.j0])
  | succ kj2 =>
   have H := HA.out
   clear HA
   simp only [spec_ReadDeed.j0] at H
   have H' := sqa H
   clear H
   go_wp2
   go_loopg [6] kj2 (fun kq v6 w' => ∃ (x6_2 : Int) (x0 : Int) (x1 : ByteArray), v6 = .int .i64 x6_2 ∧ Aside0 (spec_ReadDeed.l0 kq a0 x5_2 x6_2 = some (r1, r2, r3)) ∧ Aside0 (kq ≤ kj2) ∧ Aside0 (Kd.R k38 38 w' w.heap.size (fun k_ => k_ ≠ g0) u5 x5_2) ∧ Aside0 (w'.heap[g0]? = some (.cells #[.int .i64 x0, .string x1] 38 (0, 0))) ∧ Aside0 (Below w.heap.size w w'))
   case atStart => exact ⟨(0), (0), ((⟨#[]⟩ : ByteArray)), Z4, H', ⟨Nat.le_refl _⟩, ⟨sqR O4⟩, ⟨sqK B0⟩, ⟨sqB1 HB E0⟩⟩
   case round =>
    clear H'
    obtain ⟨x6_2, x0, x1, rfl, HA, HK2, O4, B0, HB⟩ := hrel
    cases gk with
    | zero => exact absurd HA.out (by simp [spec_ReadDeed.l0])
    | succ k2 =>
     have H := HA.out
     clear HA
     simp only [spec_ReadDeed.l0] at H
     by_cases c17 : x6_2 < (x5_2.length : Int)
     ·rw [if_pos c17] at H
      have c17b0 : decide (x6_2 < (x5_2.length : Int)) = true := decide_eq_true c17
      clear c17
      by_cases c18 : a0.toList = ([] : List UInt8)
      ·rw [if_pos c18] at H
       have c18b0 : (a0.toList == ([] : List UInt8)) = true := sqe1 c18
       try have c18b8 : a0.toList.isEmpty = true := by (have h_ := c18b0; (repeat rw [show ∀ z : List UInt8, (z == ([] : List UInt8)) = z.isEmpty from fun z => by cases z <;> rfl] at h_); exact h_)
       have c18b1 : (a0.toList != ([] : List UInt8)) = false := sqn0 c18
       clear c18
       have H' := sqa H
       clear H
       obtain ⟨Ao19, co19, eo19⟩ := Kd.R_slice O4.1
       subst eo19
       go_wp2
       go_roundg k2
       case measure => have := HJ2.out; have := HK2.out; omega
       case rel => exact ⟨(wrap64 (x6_2 + 1)), (x0), (x1), Z4, H', ⟨Z49 HK2⟩, ⟨sqR O4⟩, ⟨sqK B0⟩, ⟨sqB1 HB E0⟩⟩
      rw [if_neg c18] at H
      have c18b0 : (a0.toList == ([] : List UInt8)) = false := sqe0 c18
      try have c18b8 : a0.toList.isEmpty = false := by (have h_ := c18b0; (repeat rw [show ∀ z : List UInt8, (z == ([] : List UInt8)) = z.isEmpty from fun z => by cases z <;> rfl] at h_); exact h_)
      have c18b1 : (a0.toList != ([] : List UInt8)) = true := sqn1 c18
      obtain ⟨c20, H⟩ := sqI H
      have c20b0 : decide (0 ≤ x6_2) = true := decide_eq_true c20
      clear c20
      obtain ⟨t1, A21, H⟩ := sqD H
      by_cases c22 : t1.toList = a0.toList
      ·rw [if_pos c22] at H
       have c22b0 : (t1.toList == a0.toList) = true := sqe1 c22
       have c22b1 : (t1.toList != a0.toList) = false := sqn0 c22
       clear c22
       obtain ⟨rfl, rfl, rfl⟩ := sqO3 H
       obtain ⟨Ao23, co23, eo23⟩ := Kd.R_slice O4.1
       subst eo23
       have p2 : 0 ≤ (x6_2 : Int) := of_decide_eq_true Z9
       have q2 : x6_2 < (x5_2.length : Int) := of_decide_eq_true Z9
       obtain ⟨ad2, e2, hx2, hx3⟩ := at_T38 (Kd.R_reads' O4.1).2.2 x6_2 p2 q2
       cases e2
       replace p2 := eq_true p2
       replace q2 := eq_true q2
       go_wp2_with (first | (go_at_call 122; (with_reducible refine (spec_DeedText.calls k2 ((rd_T38 x5_2 x6_2).f0) ((rd_T38 x5_2 x6_2).f1) t1 _ A21.1).mono ?_); rintro e w24 ⟨rfl, hb⟩; replace O4 := sqU O4 hb; replace B0 := sqT B0 hb; replace HB := sqS (sqB1 HB E0) hb; (try clear hb); have p3 : 0 ≤ (x6_2 : Int) := of_decide_eq_true Z9; have q3 : x6_2 < (x5_2.length : Int) := of_decide_eq_true Z9; obtain ⟨ad3, e3, hx4, hx5⟩ := at_T38 (Kd.R_reads' O4.1).2.2 x6_2 p3 q3; obtain rfl : ad2 = ad3 := (by injection e3); replace p3 := eq_true p3; replace q3 := eq_true q3; obtain ⟨_, _, _, _⟩ := sqY2 B0))
       refine sqE g0 38 #[.int .i64 ((rd_T38 x5_2 x6_2).f0), .string ((rd_T38 x5_2 x6_2).f1)] (by refine sqPut (cs := #[.int .i64 ((rd_T38 x5_2 x6_2).f0), .string x1]) ?_ 1; refine sqPut (cs := #[.int .i64 x0, .string x1]) ?_ 0; exact sqK B0) underlying38 ?_
       exact ⟨Z16, sqB1 HB E0⟩
      rw [if_neg c22] at H
      have c22b0 : (t1.toList == a0.toList) = false := sqe0 c22
      have c22b1 : (t1.toList != a0.toList) = true := sqn1 c22
      have H' := sqa H
      clear H
      obtain ⟨Ao26, co26, eo26⟩ := Kd.R_slice O4.1
      subst eo26
      have p2 : 0 ≤ (x6_2 : Int) := of_decide_eq_true Z9
      have q2 : x6_2 < (x5_2.length : Int) := of_decide_eq_true Z9
      obtain ⟨ad2, e2, hx2, hx3⟩ := at_T38 (Kd.R_reads' O4.1).2.2 x6_2 p2 q2
      cases e2
      replace p2 := eq_true p2
      replace q2 := eq_true q2
      go_wp2_with (first | (go_at_call 122; (with_reducible refine (spec_DeedText.calls k2 ((rd_T38 x5_2 x6_2).f0) ((rd_T38 x5_2 x6_2).f1) t1 _ A21.1).mono ?_); rintro e w27 ⟨rfl, hb⟩; replace O4 := sqU O4 hb; replace B0 := sqT B0 hb; replace HB := sqS (sqB1 HB E0) hb; (try clear hb)))
      go_roundg k2
      case measure => have := HJ2.out; have := HK2.out; omega
      case rel => exact ⟨(wrap64 (x6_2 + 1)), (x0), (x1), Z4, H', ⟨Z49 HK2⟩, ⟨sqR O4⟩, ⟨sqK B0⟩, ⟨sqB1 HB E0⟩⟩
     rw [if_neg c17] at H
     have c17b0 : decide (x6_2 < (x5_2.length : Int)) = false := decide_eq_false c17
     clear c17
     obtain ⟨rfl, rfl, rfl⟩ := sqO3 H
     obtain ⟨Ao28, co28, eo28⟩ := Kd.R_slice O4.1
     subst eo28
     obtain ⟨_, _, _, _⟩ := sqY2 B0
     go_wp2
     refine sqE g0 38 #[.int .i64 0, .string (⟨#[]⟩ : ByteArray)] (by refine sqPut (cs := #[.int .i64 0, .string x1]) ?_ 1; refine sqPut (cs := #[.int .i64 x0, .string x1]) ?_ 0; exact sqK B0) underlying38 ?_
     exact ⟨Z16, sqB1 HB E0⟩

end Go.Proofs.YtofmlbgfcohhoaaGreatDoor.PFnExactDeskSay
