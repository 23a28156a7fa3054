import Derived.Test.YtofmlbgfcohhoaaGreatDoorPFnDeskSayx2
import Derived.Test.YtofmlbgfcohhoaaGreatDoorPFnDeskSayx6
set_option maxHeartbeats 8000000
set_option maxRecDepth 100000
namespace Go.Proofs.YtofmlbgfcohhoaaGreatDoor.PFnDeskSay
open Go.RowKit Go.Proofs.YtofmlbgfcohhoaaGreatDoorW.PrintWords Go.Proofs.YtofmlbgfcohhoaaGreatDoorW.PrintLast Go.Proofs.YtofmlbgfcohhoaaGreatDoorW.PrintMore Go.Proofs.YtofmlbgfcohhoaaGreatDoor.Lib Go.Proofs.Tryz
attribute [local go_sem] max2_int min2_int max_two min_two max_three min_three max_four min_four   -- for this text's walks alone
set_option linter.unusedVariables false
set_option linter.unusedSimpArgs false

attribute [local go_sem high] eqA38
mutual
def F30.j0 : Nat → Bool → Bool → Int → ByteArray → Option (ByteArray)
 | 0, _, _, _, _ => none
 | k + 1, x4, x0, x1, x2 => if x0 = true then (if 6 + x2.size ≤ 9223372036854775807 then (some ((⟨#[100, 97, 110, 99, 101, 32]⟩ : ByteArray) ++ x2)) else (none)) else (if x1 = 1 then (F30.j1 k x4 x1 x2) else (F30.j1 k false x1 x2))
def F30.j1 : Nat → Bool → Int → ByteArray → Option (ByteArray)
 | 0, _, _, _ => none
 | k + 1, x0, x1, x2 => if x0 = true then (if 5 + x2.size ≤ 9223372036854775807 then (some ((⟨#[116, 97, 107, 101, 32]⟩ : ByteArray) ++ x2)) else (none)) else (if (x1 == 2 && (x2.toList == ([] : List UInt8))) = true then (some (⟨#[109, 105, 114, 114, 111, 114]⟩ : ByteArray)) else (if (x1 == 3 && (x2.toList == ([] : List UInt8))) = true then (some (⟨#[117, 110, 116, 105, 101]⟩ : ByteArray)) else (if (x1 == 4 && (x2.toList == ([] : List UInt8))) = true then (some (⟨#[98, 97, 99, 107]⟩ : ByteArray)) else (some (⟨#[]⟩ : ByteArray)))))
end
def F30.f (k : Nat) (a0_0 : Int) (a0_1 : ByteArray) : Option (ByteArray) := (F27.f k a0_1).bind fun bt0 => (if a0_0 = 0 then ((F62.f a0_1).bind fun t0 => (F30.j0 k bt0.2.2 t0 a0_0 a0_1)) else (F30.j0 k bt0.2.2 false a0_0 a0_1))
theorem F30.c (k : Nat) (a0_0 : Int) (a0_1 : ByteArray) (r : ByteArray) (w : World) (hG : Glob w) (H : F30.f k a0_0 a0_1 = some r) :
  Calls prog 88 #[.agg #[.int .i64 a0_0, .string a0_1]] w fun e w' => e = .returned (.string r) ∧ Below w.heap.size w w' := by
 have hu38 := underlying38
 have hu31 := underlying31
 have HB := sqh w
 unfold F30.f at H
 obtain ⟨⟨t236, t0, t1⟩, A2, H⟩ := sqD H
 try dsimp only at H
 have HC3 := sqa H
 clear H
 go_enter func88, ntmps88
 go_upto_region 2 with (first | ((with_reducible refine sqd 1 rfl ?_); refine sqx0 w (sqB HB) #[.int .i64 a0_0, .string a0_1] 38 fun g0 w4 B0 E0 HB => ?_; have := sqY2 B0) | ((with_reducible refine sqc 126 rfl ?_); refine sqv (some 8) func126 (args := #[.string a0_1]) (F27.c k a0_1 t236 t0 t1 _ (Z6 E0) A2.1) fun w6 hb => ?_; replace B0 := sqT B0 hb; replace HB := sqS (sqB1 HB E0) hb) | ((with_reducible refine sqd 3 rfl ?_); refine sqx1 w (sqB1 HB E0) #[.int .i64 0, .int .i64 0] 31 B0 fun g1 w7 B2 E1 HB N0 N1 B0 => ?_; have := sqn2 N1 N0; have := sqY2 B2))
 (try simp only [Act.put, List.setIfInBounds_toArray, List.set_cons_zero, List.set_cons_succ])
 go_cut [11] (fun v0 wc => ∃ (kq : Nat) (x0 : Bool), v0 = .bool x0 ∧ Aside0 (F30.j0 kq t1 x0 a0_0 a0_1 = some r) ∧ Aside0 (kq ≤ k) ∧ Aside0 (wc.heap[g0]? = some (.cells #[.int .i64 a0_0, .string a0_1] 38 (0, 0))) ∧ Aside0 (wc.heap[g1]? = some (.cells #[.int .i64 t236, .int .i64 t0] 31 (0, 0))) ∧ Aside0 (Below w.heap.size w wc))
 case first =>
  have H := HC3.1
  clear HC3
  obtain ⟨c0, c1, H⟩ | ⟨c0, c1, c10, H⟩ := sqi4 H
  ·(first | rw [c0] | (simp only [i64_w, i32_w]; rw [c0]) | skip)
   obtain ⟨t2, A0, H⟩ := sqD H
   have H' := sqa H
   clear H
   have := sqn2 N0 N1
   have := sqY2 B0
   go_wp2_with (first | (go_at_call 71; (with_reducible refine (F62.c a0_1 t2 _ A0.1).mono ?_); rintro e w0 ⟨rfl, hb⟩; replace B0 := sqH N0 B0 hb; replace B2 := sqa (blk_below (g := g1) (o := .cells #[.int .i64 t236, .int .i64 t0] 31 (0, 0)) (Z114 B2) hb); replace HB := sqS (sqB2 HB E0 E1) hb))
   go_meet
   case rel => exact ⟨_, (t2), Z1, H', ⟨Z11⟩, ⟨sqK B0⟩, ⟨sqK B2⟩, ⟨sqB2 HB E0 E1⟩⟩
  (first | rw [c0] | (simp only [i64_w, i32_w]; rw [c0]) | skip)
  have H' := sqa H
  clear H
  have := sqn2 N0 N1
  have := sqY2 B0
  go_wp2
  go_meet
  case rel => exact ⟨_, (false), Z1, H', ⟨Z11⟩, ⟨Z9 N0 B0⟩, ⟨Z114 B2⟩, ⟨sqB2 HB E0 E1⟩⟩
 case rest =>
  clear HC3
  obtain ⟨kq, x0, rfl, HA, HJ2, B0, B2, HB⟩ := hcut
  cases kq with
  | zero => exact absurd HA.out (by simp [F30.j0])
  | succ kj2 =>
   have H := HA.out
   clear HA
   simp only [F30.j0] at H
   obtain rfl | rfl := sqt x0
   ·rw [if_pos rfl] at H
    obtain ⟨c3, c4, c5, H⟩ := sqJ5 H
    try have c6 : (9223372036854775807 < 6 + a0_1.size) = False := eq_false (Nat.not_lt.2 c3)
    obtain rfl := sqo H
    have := sqn2 N0 N1
    have := sqY2 B0
    go_wp2
    go_ret
    exact ⟨Z5, sqB2 HB E0 E1⟩
   rw [if_neg sqF] at H
   have HC0 := sqa H
   clear H
   go_upto_region 4 with (fail)
   go_cut [23] (fun v1 wc => ∃ (kq : Nat) (x1 : Bool), v1 = .bool x1 ∧ Aside0 (F30.j1 kq x1 a0_0 a0_1 = some r) ∧ Aside0 (kq ≤ kj2) ∧ Aside0 (wc.heap[g0]? = some (.cells #[.int .i64 a0_0, .string a0_1] 38 (0, 0))) ∧ Aside0 (wc.heap[g1]? = some (.cells #[.int .i64 t236, .int .i64 t0] 31 (0, 0))) ∧ Aside0 (Below w.heap.size w wc))
   case first =>
    have H := HC0.1
    clear HC0
    obtain ⟨c8, c9, H⟩ | ⟨c8, c9, c7, H⟩ := sqi4 H
    ·(first | rw [c8] | (simp only [i64_w, i32_w]; rw [c8]) | skip)
     have H' := sqa H
     clear H
     have := sqn2 N0 N1
     have := sqY2 B0
     go_wp2
     go_meet
     case rel => exact ⟨_, (t1), Z1, H', ⟨Z49⟩, ⟨sqK B0⟩, ⟨sqK B2⟩, ⟨sqB2 HB E0 E1⟩⟩
    (first | rw [c8] | (simp only [i64_w, i32_w]; rw [c8]) | skip)
    have H' := sqa H
    clear H
    have := sqn2 N0 N1
    have := sqY2 B0
    go_wp2
    go_meet
    case rel => exact ⟨_, (false), Z1, H', ⟨Z49⟩, ⟨sqK B0⟩, ⟨sqK B2⟩, ⟨sqB2 HB E0 E1⟩⟩
   case rest =>
    clear HC0
    obtain ⟨kq, x1, rfl, HA, HJ0, B0, B2, HB⟩ := hcut
    cases kq with
    | zero => exact absurd HA.out (by simp [F30.j1])
    | succ kj0 =>
     have H := HA.out
     clear HA
     simp only [F30.j1] at H
     obtain rfl | rfl := sqt x1
     ·rw [if_pos rfl] at H
      obtain ⟨c28, c13, c14, H⟩ := sqJ5 H
      try have c15 : (9223372036854775807 < 5 + a0_1.size) = False := eq_false (Nat.not_lt.2 c28)
      obtain rfl := sqo H
      have := sqn2 N0 N1
      have := sqY2 B0
      go_wp2
      go_ret
      exact ⟨Z5, sqB2 HB E0 E1⟩
     rw [if_neg sqF] at H
     obtain ⟨c31, H⟩ | ⟨c31, H⟩ := sqi2 H
     ·have c19 : (a0_0 == 2 && (a0_1.toList == ([] : List UInt8))) = true := c31
      try have c20 : (a0_0 == 2 && a0_1.toList.isEmpty) = true := by (have h_ := c19; (repeat rw [sqy] at h_); exact h_)
      (try (have c21 : decide (a0_0 = 2 && (a0_1.toList == ([] : List UInt8))) = true := by simpa using c31))
      (try (have c23 : (a0_0 == 2 && (a0_1.toList == ([] : List UInt8))) = true := by simpa using c31))
      clear c31
      obtain rfl := sqo H
      have := sqn2 N0 N1
      have := sqY2 B0
      go_wp2
      go_ret
      exact ⟨Z5, sqB2 HB E0 E1⟩
     have c19 : (a0_0 == 2 && (a0_1.toList == ([] : List UInt8))) = false := by simpa using c31
     try have c20 : (a0_0 == 2 && a0_1.toList.isEmpty) = false := by (have h_ := c19; (repeat rw [sqy] at h_); exact h_)
     (try (have c21 : decide (a0_0 = 2 && (a0_1.toList == ([] : List UInt8))) = false := by simpa using c31))
     (try (have c23 : (a0_0 == 2 && (a0_1.toList == ([] : List UInt8))) = false := by simpa using c31))
     (try (have c24 : ¬ (a0_0 = 2 && (a0_1.toList == ([] : List UInt8))) := by simpa using c31))
     clear c31
     obtain ⟨c34, H⟩ | ⟨c34, H⟩ := sqi2 H
     ·have c26 : (a0_0 == 3 && (a0_1.toList == ([] : List UInt8))) = true := c34
      try have c29 : (a0_0 == 3 && a0_1.toList.isEmpty) = true := by (have h_ := c26; (repeat rw [sqy] at h_); exact h_)
      (try (have c30 : decide (a0_0 = 3 && (a0_1.toList == ([] : List UInt8))) = true := by simpa using c34))
      (try (have c32 : (a0_0 == 3 && (a0_1.toList == ([] : List UInt8))) = true := by simpa using c34))
      clear c34
      obtain rfl := sqo H
      have := sqn2 N0 N1
      have := sqY2 B0
      go_wp2
      go_ret
      exact ⟨Z5, sqB2 HB E0 E1⟩
     have c26 : (a0_0 == 3 && (a0_1.toList == ([] : List UInt8))) = false := by simpa using c34
     try have c29 : (a0_0 == 3 && a0_1.toList.isEmpty) = false := by (have h_ := c26; (repeat rw [sqy] at h_); exact h_)
     (try (have c30 : decide (a0_0 = 3 && (a0_1.toList == ([] : List UInt8))) = false := by simpa using c34))
     (try (have c32 : (a0_0 == 3 && (a0_1.toList == ([] : List UInt8))) = false := by simpa using c34))
     (try (have c33 : ¬ (a0_0 = 3 && (a0_1.toList == ([] : List UInt8))) := by simpa using c34))
     clear c34
     obtain ⟨c37, H⟩ | ⟨c37, H⟩ := sqi2 H
     ·have c35 : (a0_0 == 4 && (a0_1.toList == ([] : List UInt8))) = true := c37
      try have c36 : (a0_0 == 4 && a0_1.toList.isEmpty) = true := by (have h_ := c35; (repeat rw [sqy] at h_); exact h_)
      (try (have c38 : decide (a0_0 = 4 && (a0_1.toList == ([] : List UInt8))) = true := by simpa using c37))
      (try (have c39 : (a0_0 == 4 && (a0_1.toList == ([] : List UInt8))) = true := by simpa using c37))
      clear c37
      obtain rfl := sqo H
      have := sqn2 N0 N1
      have := sqY2 B0
      go_wp2
      go_ret
      exact ⟨Z5, sqB2 HB E0 E1⟩
     have c35 : (a0_0 == 4 && (a0_1.toList == ([] : List UInt8))) = false := by simpa using c37
     try have c36 : (a0_0 == 4 && a0_1.toList.isEmpty) = false := by (have h_ := c35; (repeat rw [sqy] at h_); exact h_)
     (try (have c38 : decide (a0_0 = 4 && (a0_1.toList == ([] : List UInt8))) = false := by simpa using c37))
     (try (have c39 : (a0_0 == 4 && (a0_1.toList == ([] : List UInt8))) = false := by simpa using c37))
     (try (have c40 : ¬ (a0_0 = 4 && (a0_1.toList == ([] : List UInt8))) := by simpa using c37))
     clear c37
     obtain rfl := sqo H
     have := sqn2 N0 N1
     have := sqY2 B0
     go_wp2
     go_ret
     exact ⟨Z5, sqB2 HB E0 E1⟩

def F56.l0 : Nat → List ByteArray → ByteArray → Int → Int → Option (Int)
 | 0, _, _, _, _ => none
 | k + 1, x0, x1, x7, x8 => if x8 < x7 then (if 0 ≤ x8 then (if x8 < (x0.length : Int) then (if x1.toList = (rdOf ByteArray.empty x0 x8).toList then (some x8) else (F56.l0 k x0 x1 x7 (wrap64 (x8 + 1)))) else (none)) else (none)) else (some (-1))
def F56.f (k : Nat) (l0 : List ByteArray) (a1 : ByteArray) : Option (Int) := F56.l0 k l0 a1 (l0.length : Int) 0
theorem F56.c (k : Nat) (A0 : Option Addr) (c0 : Nat) (l0 : List ByteArray) (a1 : ByteArray) (r : Int) (w : World) (hr0 : Kd.C Kd.string w A0 l0.length l0) (hc0 : l0.length ≤ c0) (H : F56.f k l0 a1 = some r) :
  Calls prog 124 #[.slice A0 l0.length c0, .string a1] w fun e w' => e = .returned (.int .i64 r) ∧ Drawn0 w w' := by
 have HR0 := sqa hr0
 have HC0 := sqa hc0
 clear hr0 hc0
 unfold F56.f at H
 have H' := sqa H
 clear H
 go_enter func124, ntmps124
 go_wp2
 go_loopg [8] k (fun kq v8 w' => ∃ (x8_1 : Int), v8 = .int .i64 x8_1 ∧ Aside0 (F56.l0 kq l0 a1 (l0.length : Int) x8_1 = some r) ∧ Aside0 (kq ≤ k) ∧ Drawn0 w w')
 case atStart => exact ⟨(0), Z1, H', ⟨Nat.le_refl _⟩, Z15⟩
 case round =>
  clear H'
  obtain ⟨x8_1, rfl, HA, HK1, ⟨m1, rfl⟩⟩ := hrel
  cases gk with
  | zero => exact absurd HA.out (by simp [F56.l0])
  | succ k1 =>
   have H := HA.out
   clear HA
   simp only [F56.l0] at H
   obtain ⟨c3b0, H⟩ | ⟨c3b0, H⟩ := sqi3 H
   ·obtain ⟨c4b0, H⟩ := sqJ2 H
    obtain ⟨c5b0, H⟩ := sqJ2 H
    obtain ⟨c6b0, c6b1, H⟩ | ⟨c6b0, c6b1, c6, H⟩ := sqi4 H
    ·obtain rfl := sqo H
     have p0 : 0 ≤ (x8_1 : Int) := of_decide_eq_true Z16
     have q0 : x8_1 < (l0.length : Int) := of_decide_eq_true Z16
     obtain ⟨ad0, e0, hx0⟩ := Kd.at_string HR0.1 x8_1 p0 q0
     cases e0
     replace p0 := eq_true p0
     replace q0 := eq_true q0
     go_wp2
     go_ret
     exact ⟨Z1, Z15⟩
    have H' := sqa H
    clear H
    have p0 : 0 ≤ (x8_1 : Int) := of_decide_eq_true Z16
    have q0 : x8_1 < (l0.length : Int) := of_decide_eq_true Z16
    obtain ⟨ad0, e0, hx0⟩ := Kd.at_string HR0.1 x8_1 p0 q0
    cases e0
    replace p0 := eq_true p0
    replace q0 := eq_true q0
    go_wp2
    go_roundg k1
    case measure => have := HK1.out; omega
    case rel => exact ⟨(wrap64 (x8_1 + 1)), Z1, H', ⟨Z2 HK1⟩, Z15⟩
   obtain rfl := sqo H
   go_wp2
   go_ret
   exact ⟨Z1, Z15⟩

def F82.f (k : Nat) (a0 : ByteArray) : Option (Int × ByteArray × Bool) := (strings_Cut.f a0 (⟨#[32]⟩ : ByteArray)).bind fun bt0 => ((F56.f k (([(⟨#[100, 97, 110, 99, 101]⟩ : ByteArray), (⟨#[116, 97, 107, 101]⟩ : ByteArray), (⟨#[109, 105, 114, 114, 111, 114]⟩ : ByteArray), (⟨#[117, 110, 116, 105, 101]⟩ : ByteArray), (⟨#[98, 97, 99, 107]⟩ : ByteArray)] : List ByteArray)) bt0.1).bind fun t249 => (if a0.toList = ([] : List UInt8) then (some (0, (⟨#[]⟩ : ByteArray), false)) else ((F30.f k t249 bt0.2.1).bind fun t0 => (if t0.toList = a0.toList then (some (t249, bt0.2.1, true)) else (some (0, (⟨#[]⟩ : ByteArray), false))))))
theorem F82.c (k : Nat) (a0 : ByteArray) (r1 : Int) (r2 : ByteArray) (r3 : Bool) (w : World) (hG : Glob w) (H : F82.f k a0 = some (r1, r2, r3)) :
  Calls prog 85 #[.string a0] w fun e w' => e = .returned (.tuple #[.agg #[.int .i64 r1, .string r2], .bool r3]) ∧ Below w.heap.size w w' := by
 have hu38 := underlying38
 have HB := sqh w
 unfold F82.f at H
 obtain ⟨⟨t0, t1, t2⟩, A2, H⟩ := sqD H
 try dsimp only at H
 obtain ⟨y0, hy0⟩ : ∃ y_ : List ByteArray, y_ = (([(⟨#[100, 97, 110, 99, 101]⟩ : ByteArray), (⟨#[116, 97, 107, 101]⟩ : ByteArray), (⟨#[109, 105, 114, 114, 111, 114]⟩ : ByteArray), (⟨#[117, 110, 116, 105, 101]⟩ : ByteArray), (⟨#[98, 97, 99, 107]⟩ : ByteArray)] : List ByteArray)) := ⟨_, rfl⟩
 replace H : ((F56.f k y0 t0).bind fun t249 => (if a0.toList = ([] : List UInt8) then (some (0, (⟨#[]⟩ : ByteArray), false)) else ((F30.f k t249 t1).bind fun t3 => (if t3.toList = a0.toList then (some (t249, t1, true)) else (some (0, (⟨#[]⟩ : ByteArray), false)))))) = some (r1, r2, r3) := sqW hy0 H
 have Ny0 := sqa hy0
 clear hy0
 obtain ⟨t249, A3, H⟩ := sqD H
 obtain ⟨c4, H⟩ | ⟨c4, H⟩ := sqi2 H
 ·have c4b0 : (a0.toList == ([] : List UInt8)) = true := sqe1 c4
  try have c4b8 : a0.toList.isEmpty = true := by (have h_ := c4b0; (repeat rw [sqy] at h_); exact h_)
  have c4b1 : (a0.toList != ([] : List UInt8)) = false := sqn0 c4
  clear c4
  obtain ⟨rfl, rfl, rfl⟩ := sqO3 H
  go_enter func85, ntmps85
  go_wp2_with (first | ((with_reducible refine sqd 2 rfl ?_); refine sqx0 w (sqB HB) #[.int .i64 0, .string (⟨#[]⟩ : ByteArray)] 38 fun g0 w5 B0 E0 HB => ?_) | ((with_reducible refine sqc 84 rfl ?_); refine sqv (some 10) func84 (args := #[.string a0, .string (⟨#[32]⟩ : ByteArray)]) (strings_Cut.calls a0 (⟨#[32]⟩ : ByteArray) t0 t1 t2 _ (Z6 E0) A2.1) fun w6 hb => ?_; replace B0 := sqT B0 hb; replace HB := sqS (sqB1 HB E0) hb) | ((with_reducible refine sqd 14 rfl ?_); refine Kd.R_lit Kd.string _ 9 ?hg (N := 14) ?hd (xs := ([(⟨#[100, 97, 110, 99, 101]⟩ : ByteArray), (⟨#[116, 97, 107, 101]⟩ : ByteArray), (⟨#[109, 105, 114, 114, 111, 114]⟩ : ByteArray), (⟨#[117, 110, 116, 105, 101]⟩ : ByteArray), (⟨#[98, 97, 99, 107]⟩ : ByteArray)] : List ByteArray)) (inner := [.string (⟨#[100, 97, 110, 99, 101]⟩ : ByteArray), .string (⟨#[116, 97, 107, 101]⟩ : ByteArray), .string (⟨#[109, 105, 114, 114, 111, 114]⟩ : ByteArray), .string (⟨#[117, 110, 116, 105, 101]⟩ : ByteArray), .string (⟨#[98, 97, 99, 107]⟩ : ByteArray)]) (ok := fun _ => True) (okp := fun _ => True) ?hr ?hp (fun _ hk => hk) trivial (Below.refl _ _) (Nat.le_refl _) (by simp) ?_; (case hd => rfl); (case hg => rfl); (case hr => exact Z17); (case hp => exact Z115); intro v0 w7 ho8 hb hg_ hnew_; clear hg_ hnew_; (first | rw [← Ny0.out] at ho8 | (simp only [Int.reduceToNat] at ho8; rw [← Ny0.out] at ho8)); have O0 := sqL ho8 (sqB1 HB E0); replace B0 := sqT B0 hb; replace HB := sqS (sqB1 HB E0) hb; clear hb ho8; obtain ⟨Ao9, co9, eo9⟩ := Kd.R_slice O0.1; subst eo9) | ((with_reducible refine sqc 124 rfl ?_); refine sqC (some 16) func124 #[.slice Ao9 y0.length co9, .string t0] ?_; (with_reducible refine (F56.c k _ _ y0 t0 t249 _ ?side1 ?side2 A3.1).mono ?_); (case side1 => exact Z7 O0); (case side2 => exact Z8 O0); rintro e w' ⟨rfl, ⟨nd, rfl⟩⟩; refine ⟨_, rfl, ?_⟩; (try (rw [drewN_self w7]; generalize hq_ : World.drewN w7 _ = w7; have n0_ : Aside0 (Kd.R Kd.string 9 w7 w.heap.size (fun _ => True) (.slice Ao9 y0.length co9) y0) := ⟨Z28 O0⟩; have n1_ : Aside0 (w7.heap[g0]? = some (.cells #[.int .i64 0, .string (⟨#[]⟩ : ByteArray)] 38 (0, 0))) := ⟨Z29 B0⟩; have n2_ : Aside0 (Below w.heap.size w w7) := ⟨Z30 E0⟩; clear O0 B0 HB hq_; have O0 := n0_; have B0 := n1_; have HB := n2_; clear n0_ n1_ n2_))) | ((with_reducible refine sqd 7 rfl ?_); refine sqx w (sqB1 HB E0) #[.int .i64 0, .string (⟨#[]⟩ : ByteArray)] 38 fun g1 hg w0 B2 E1 HB hb => ?_; replace O0 := sqU O0 hb; obtain ⟨N0, N1⟩ := sqM hg B0; replace B0 := sqT B0 hb; clear hb hg; have := sqn2 N1 N0; have := sqY2 B2; have := sqY2 B0))
  refine sqE g0 38 #[.int .i64 0, .string (⟨#[]⟩ : ByteArray)] (by refine sqPut (cs := #[.int .i64 0, .string (⟨#[]⟩ : ByteArray)]) ?_ 1; refine sqPut (cs := #[.int .i64 0, .string (⟨#[]⟩ : ByteArray)]) ?_ 0; refine sqFar ?_ N0; refine sqFar ?_ N0; exact sqK B0) underlying38 ?_
  exact ⟨Z5, sqB2 HB E0 E1⟩
 have c4b0 : (a0.toList == ([] : List UInt8)) = false := sqe0 c4
 try have c4b8 : a0.toList.isEmpty = false := by (have h_ := c4b0; (repeat rw [sqy] at h_); exact h_)
 have c4b1 : (a0.toList != ([] : List UInt8)) = true := sqn1 c4
 obtain ⟨t3, A0, H⟩ := sqD H
 obtain ⟨c1, c2, H⟩ | ⟨c1, c2, c0, H⟩ := sqi4 H
 ·obtain ⟨rfl, rfl, rfl⟩ := sqO3 H
  go_enter func85, ntmps85
  go_wp2_with (first | ((with_reducible refine sqd 2 rfl ?_); refine sqx0 w (sqB HB) #[.int .i64 0, .string (⟨#[]⟩ : ByteArray)] 38 fun g0 w1 B0 E0 HB => ?_) | ((with_reducible refine sqc 84 rfl ?_); refine sqv (some 10) func84 (args := #[.string a0, .string (⟨#[32]⟩ : ByteArray)]) (strings_Cut.calls a0 (⟨#[32]⟩ : ByteArray) t0 t1 t2 _ (Z6 E0) A2.1) fun w2 hb => ?_; replace B0 := sqT B0 hb; replace HB := sqS (sqB1 HB E0) hb) | ((with_reducible refine sqd 14 rfl ?_); refine Kd.R_lit Kd.string _ 9 ?hg (N := 14) ?hd (xs := ([(⟨#[100, 97, 110, 99, 101]⟩ : ByteArray), (⟨#[116, 97, 107, 101]⟩ : ByteArray), (⟨#[109, 105, 114, 114, 111, 114]⟩ : ByteArray), (⟨#[117, 110, 116, 105, 101]⟩ : ByteArray), (⟨#[98, 97, 99, 107]⟩ : ByteArray)] : List ByteArray)) (inner := [.string (⟨#[100, 97, 110, 99, 101]⟩ : ByteArray), .string (⟨#[116, 97, 107, 101]⟩ : ByteArray), .string (⟨#[109, 105, 114, 114, 111, 114]⟩ : ByteArray), .string (⟨#[117, 110, 116, 105, 101]⟩ : ByteArray), .string (⟨#[98, 97, 99, 107]⟩ : ByteArray)]) (ok := fun _ => True) (okp := fun _ => True) ?hr ?hp (fun _ hk => hk) trivial (Below.refl _ _) (Nat.le_refl _) (by simp) ?_; (case hd => rfl); (case hg => rfl); (case hr => exact Z17); (case hp => exact Z115); intro v0 w3 ho0 hb hg_ hnew_; clear hg_ hnew_; (first | rw [← Ny0.out] at ho0 | (simp only [Int.reduceToNat] at ho0; rw [← Ny0.out] at ho0)); have O0 := sqL ho0 (sqB1 HB E0); replace B0 := sqT B0 hb; replace HB := sqS (sqB1 HB E0) hb; clear hb ho0; obtain ⟨Ao0, co0, eo0⟩ := Kd.R_slice O0.1; subst eo0) | ((with_reducible refine sqc 124 rfl ?_); refine sqC (some 16) func124 #[.slice Ao0 y0.length co0, .string t0] ?_; (with_reducible refine (F56.c k _ _ y0 t0 t249 _ ?side1 ?side2 A3.1).mono ?_); (case side1 => exact Z7 O0); (case side2 => exact Z8 O0); rintro e w' ⟨rfl, ⟨nd, rfl⟩⟩; refine ⟨_, rfl, ?_⟩; (try (rw [drewN_self w3]; generalize hq_ : World.drewN w3 _ = w3; have n0_ : Aside0 (Kd.R Kd.string 9 w3 w.heap.size (fun _ => True) (.slice Ao0 y0.length co0) y0) := ⟨Z28 O0⟩; have n1_ : Aside0 (w3.heap[g0]? = some (.cells #[.int .i64 0, .string (⟨#[]⟩ : ByteArray)] 38 (0, 0))) := ⟨Z29 B0⟩; have n2_ : Aside0 (Below w.heap.size w w3) := ⟨Z30 E0⟩; clear O0 B0 HB hq_; have O0 := n0_; have B0 := n1_; have HB := n2_; clear n0_ n1_ n2_))) | ((with_reducible refine sqd 7 rfl ?_); refine sqx w (sqB1 HB E0) #[.int .i64 0, .string (⟨#[]⟩ : ByteArray)] 38 fun g1 hg w4 B2 E1 HB hb => ?_; replace O0 := sqU O0 hb; obtain ⟨N0, N1⟩ := sqM hg B0; replace B0 := sqT B0 hb; clear hb hg; have := sqn2 N1 N0; have := sqY2 B2) | (go_at_call 88; (with_reducible refine (F30.c k t249 t1 t3 _ ?sideG A0.1).mono ?_); (case sideG => exact Z10 E0 E1); rintro e w8 ⟨rfl, hb⟩; replace O0 := sqa (Kd.R_below (Z116 O0 B2) hb); replace B0 := sqH N0 B0 hb; replace B2 := sqa (blk_below (g := g1) (o := .cells #[.int .i64 t249, .string t1] 38 (0, 0)) (Z117 B2) hb); replace HB := sqS (sqB2 HB E0 E1) hb; have := sqY2 B2; have := sqY2 B0))
  refine sqE g0 38 #[.int .i64 t249, .string t1] (Z117 B0) underlying38 ?_
  exact ⟨Z5, sqB2 HB E0 E1⟩
 obtain ⟨rfl, rfl, rfl⟩ := sqO3 H
 go_enter func85, ntmps85
 go_wp2_with (first | ((with_reducible refine sqd 2 rfl ?_); refine sqx0 w (sqB HB) #[.int .i64 0, .string (⟨#[]⟩ : ByteArray)] 38 fun g0 w9 B0 E0 HB => ?_) | ((with_reducible refine sqc 84 rfl ?_); refine sqv (some 10) func84 (args := #[.string a0, .string (⟨#[32]⟩ : ByteArray)]) (strings_Cut.calls a0 (⟨#[32]⟩ : ByteArray) t0 t1 t2 _ (Z6 E0) A2.1) fun w28 hb => ?_; replace B0 := sqT B0 hb; replace HB := sqS (sqB1 HB E0) hb) | ((with_reducible refine sqd 14 rfl ?_); refine Kd.R_lit Kd.string _ 9 ?hg (N := 14) ?hd (xs := ([(⟨#[100, 97, 110, 99, 101]⟩ : ByteArray), (⟨#[116, 97, 107, 101]⟩ : ByteArray), (⟨#[109, 105, 114, 114, 111, 114]⟩ : ByteArray), (⟨#[117, 110, 116, 105, 101]⟩ : ByteArray), (⟨#[98, 97, 99, 107]⟩ : ByteArray)] : List ByteArray)) (inner := [.string (⟨#[100, 97, 110, 99, 101]⟩ : ByteArray), .string (⟨#[116, 97, 107, 101]⟩ : ByteArray), .string (⟨#[109, 105, 114, 114, 111, 114]⟩ : ByteArray), .string (⟨#[117, 110, 116, 105, 101]⟩ : ByteArray), .string (⟨#[98, 97, 99, 107]⟩ : ByteArray)]) (ok := fun _ => True) (okp := fun _ => True) ?hr ?hp (fun _ hk => hk) trivial (Below.refl _ _) (Nat.le_refl _) (by simp) ?_; (case hd => rfl); (case hg => rfl); (case hr => exact Z17); (case hp => exact Z115); intro v0 w29 ho1 hb hg_ hnew_; clear hg_ hnew_; (first | rw [← Ny0.out] at ho1 | (simp only [Int.reduceToNat] at ho1; rw [← Ny0.out] at ho1)); have O0 := sqL ho1 (sqB1 HB E0); replace B0 := sqT B0 hb; replace HB := sqS (sqB1 HB E0) hb; clear hb ho1; obtain ⟨Ao1, co1, eo1⟩ := Kd.R_slice O0.1; subst eo1) | ((with_reducible refine sqc 124 rfl ?_); refine sqC (some 16) func124 #[.slice Ao1 y0.length co1, .string t0] ?_; (with_reducible refine (F56.c k _ _ y0 t0 t249 _ ?side1 ?side2 A3.1).mono ?_); (case side1 => exact Z7 O0); (case side2 => exact Z8 O0); rintro e w' ⟨rfl, ⟨nd, rfl⟩⟩; refine ⟨_, rfl, ?_⟩; (try (rw [drewN_self w29]; generalize hq_ : World.drewN w29 _ = w29; have n0_ : Aside0 (Kd.R Kd.string 9 w29 w.heap.size (fun _ => True) (.slice Ao1 y0.length co1) y0) := ⟨Z28 O0⟩; have n1_ : Aside0 (w29.heap[g0]? = some (.cells #[.int .i64 0, .string (⟨#[]⟩ : ByteArray)] 38 (0, 0))) := ⟨Z29 B0⟩; have n2_ : Aside0 (Below w.heap.size w w29) := ⟨Z30 E0⟩; clear O0 B0 HB hq_; have O0 := n0_; have B0 := n1_; have HB := n2_; clear n0_ n1_ n2_))) | ((with_reducible refine sqd 7 rfl ?_); refine sqx w (sqB1 HB E0) #[.int .i64 0, .string (⟨#[]⟩ : ByteArray)] 38 fun g1 hg w32 B2 E1 HB hb => ?_; replace O0 := sqU O0 hb; obtain ⟨N0, N1⟩ := sqM hg B0; replace B0 := sqT B0 hb; clear hb hg; have := sqn2 N1 N0; have := sqY2 B2) | (go_at_call 88; (with_reducible refine (F30.c k t249 t1 t3 _ ?sideG A0.1).mono ?_); (case sideG => exact Z10 E0 E1); rintro e w35 ⟨rfl, hb⟩; replace O0 := sqa (Kd.R_below (Z116 O0 B2) hb); replace B0 := sqH N0 B0 hb; replace B2 := sqa (blk_below (g := g1) (o := .cells #[.int .i64 t249, .string t1] 38 (0, 0)) (Z117 B2) hb); replace HB := sqS (sqB2 HB E0 E1) hb; have := sqY2 B0))
 refine sqE g0 38 #[.int .i64 0, .string (⟨#[]⟩ : ByteArray)] (by refine sqPut (cs := #[.int .i64 0, .string (⟨#[]⟩ : ByteArray)]) ?_ 1; refine sqPut (cs := #[.int .i64 0, .string (⟨#[]⟩ : ByteArray)]) ?_ 0; exact sqK B0) underlying38 ?_
 exact ⟨Z5, sqB2 HB E0 E1⟩

def F37.l0 : Nat → ByteArray → Int → Int → Option (ByteArray)
 | 0, _, _, _ => none
 | k + 1, x3, x0, x1 => if x0 = 0 then (some x3) else (if x0 < 0 then (if x3.size + 1 ≤ 9223372036854775807 then (F37.l0 k (x3 ++ (⟨#[84]⟩ : ByteArray)) (wrap64 (x0 + x1)) x1) else (none)) else (if x3.size + 1 ≤ 9223372036854775807 then ((F25.f k (wrap64 (-x1)) x0).bind fun bt0 => (F37.l0 k (x3 ++ (⟨#[82]⟩ : ByteArray)) bt0.1 bt0.2)) else (none)))
def F37.f (k : Nat) (a0_0 : Int) (a0_1 : Int) : Option (ByteArray) := F37.l0 k (⟨#[]⟩ : ByteArray) a0_0 a0_1
theorem F37.c (k : Nat) (a0_0 : Int) (a0_1 : Int) (r : ByteArray) (w : World) (H : F37.f k a0_0 a0_1 = some r) :
  Calls prog 105 #[.agg #[.int .i64 a0_0, .int .i64 a0_1]] w fun e w' => e = .returned (.string r) ∧ Below w.heap.size w w' := by
 have hu31 := underlying31
 have HB := sqh w
 unfold F37.f at H
 have H' := sqa H
 clear H
 go_enter func105, ntmps105
 go_wp2_with (first | ((with_reducible refine sqd 1 rfl ?_); refine sqx0 w (sqB HB) #[.int .i64 a0_0, .int .i64 a0_1] 31 fun g0 w2 B0 E0 HB => ?_))
 go_loopg [3] k (fun kq v3 w' => ∃ (x3_1 : ByteArray) (x0 : Int) (x1 : Int), v3 = .string x3_1 ∧ Aside0 (F37.l0 kq x3_1 x0 x1 = some r) ∧ Aside0 (kq ≤ k) ∧ Aside0 (w'.heap[g0]? = some (.cells #[.int .i64 x0, .int .i64 x1] 31 (0, 0))) ∧ Aside0 (Below w.heap.size w w'))
 case atStart => exact ⟨((⟨#[]⟩ : ByteArray)), (a0_0), (a0_1), Z1, H', ⟨Nat.le_refl _⟩, ⟨sqK B0⟩, ⟨sqB1 HB E0⟩⟩
 case round =>
  clear H'
  obtain ⟨x3_1, x0, x1, rfl, HA, HK1, B0, HB⟩ := hrel
  cases gk with
  | zero => exact absurd HA.out (by simp [F37.l0])
  | succ k1 =>
   have H := HA.out
   clear HA
   simp only [F37.l0] at H
   obtain ⟨c3b0, c3b1, H⟩ | ⟨c3b0, c3b1, c3, H⟩ := sqi4 H
   ·obtain rfl := sqo H
    have := sqY2 B0
    go_wp2
    go_ret
    exact ⟨Z5, sqB1 HB E0⟩
   obtain ⟨c5b0, H⟩ | ⟨c5b0, H⟩ := sqi3 H
   ·obtain ⟨c6, c6b0, c6b1, H⟩ := sqJ5 H
    try have c6b2 : (9223372036854775807 < x3_1.size + 1) = False := eq_false (Nat.not_lt.2 c6)
    have H' := sqa H
    clear H
    have := sqY2 B0
    go_wp2
    go_roundg k1
    case measure => have := HK1.out; omega
    case rel => exact ⟨(x3_1 ++ (⟨#[84]⟩ : ByteArray)), (wrap64 (x0 + x1)), (x1), Z1, H', ⟨Z2 HK1⟩, ⟨by refine sqPut (cs := #[.int .i64 x0, .int .i64 x1]) ?_ 0; exact sqK B0⟩, ⟨sqB1 HB E0⟩⟩
   obtain ⟨c8, c8b0, c8b1, H⟩ := sqJ5 H
   try have c8b2 : (9223372036854775807 < x3_1.size + 1) = False := eq_false (Nat.not_lt.2 c8)
   obtain ⟨⟨t0, t1⟩, A9, H⟩ := sqD H
   try dsimp only at H
   have H' := sqa H
   clear H
   have := sqY2 B0
   go_wp2_with (first | ((with_reducible refine sqc 120 rfl ?_); refine sqv (some 25) func120 (F25.c k1 (wrap64 (-x1)) x0 t0 t1 _ A9.1) fun w0 hb => ?_; replace B0 := sqT B0 hb; replace HB := sqS (sqB1 HB E0) hb; have := sqY2 B0))
   go_roundg k1
   case measure => have := HK1.out; omega
   case rel => exact ⟨(x3_1 ++ (⟨#[82]⟩ : ByteArray)), (t0), (t1), Z1, H', ⟨Z2 HK1⟩, ⟨by refine sqPut (cs := #[.int .i64 t0, .int .i64 x1]) ?_ 1; refine sqPut (cs := #[.int .i64 x0, .int .i64 x1]) ?_ 0; exact sqK B0⟩, ⟨sqB1 HB E0⟩⟩

def F70.f (a0_0 : Int) (a0_1 : Int) : Option (Int) := if a0_1 = 0 then (none) else (if (wrap64 ((wrap64 (Int.tdiv a0_0 a0_1)) * a0_1)) < a0_0 then (some (wrap64 ((wrap64 (Int.tdiv a0_0 a0_1)) + 1))) else (some (wrap64 (Int.tdiv a0_0 a0_1))))
theorem F70.c (a0_0 : Int) (a0_1 : Int) (r : Int) (w : World) (H : F70.f a0_0 a0_1 = some r) :
  Calls prog 180 #[.agg #[.int .i64 a0_0, .int .i64 a0_1]] w fun e w' => e = .returned (.int .i64 r) ∧ Below w.heap.size w w' := by
 have hu31 := underlying31
 have HB := sqh w
 unfold F70.f at H
 obtain ⟨c2, H⟩ | ⟨c2, H⟩ := sqi2 H
 ·exact absurd H (by simp)
 have c2b0 : (a0_1 == 0) = false := sqe0 c2
 have c2b1 : (a0_1 != 0) = true := sqn1 c2
 obtain ⟨c3b0, H⟩ | ⟨c3b0, H⟩ := sqi3 H
 ·obtain rfl := sqo H
  go_enter func180, ntmps180
  go_wp2_with (first | ((with_reducible refine sqd 1 rfl ?_); refine sqx0 w (sqB HB) #[.int .i64 a0_0, .int .i64 a0_1] 31 fun g0 w4 B0 E0 HB => ?_; have := sqY2 B0))
  go_ret
  exact ⟨Z5, sqB1 HB E0⟩
 obtain rfl := sqo H
 go_enter func180, ntmps180
 go_wp2_with (first | ((with_reducible refine sqd 1 rfl ?_); refine sqx0 w (sqB HB) #[.int .i64 a0_0, .int .i64 a0_1] 31 fun g0 w6 B0 E0 HB => ?_; have := sqY2 B0))
 go_ret
 exact ⟨Z5, sqB1 HB E0⟩

def F49.l0 : Nat → List Int → Int → Int → Option (List Int)
 | 0, _, _, _ => none
 | k + 1, x3, x0, x1 => (F70.f x0 x1).bind fun t0 => (if x3.length < 17592186044416 then ((some (x3 ++ [t0] : List Int)).bind fun y0 => (if (wrap64 ((wrap64 (t0 * x1)) - x0)) = 0 then (some y0) else (F49.l0 k y0 x1 (wrap64 ((wrap64 (t0 * x1)) - x0))))) else (none))
def F49.f (k : Nat) (a0_0 : Int) (a0_1 : Int) : Option (List Int) := F49.l0 k (([] : List Int)) a0_0 a0_1
theorem F49.c (k : Nat) (a0_0 : Int) (a0_1 : Int) (r : List Int) (w : World) (H : F49.f k a0_0 a0_1 = some r) :
  Calls prog 165 #[.agg #[.int .i64 a0_0, .int .i64 a0_1]] w fun e w' => ∃ v0_ : Value, e = .returned (v0_) ∧ Kd.R (Kd.int .i64) 3 w' w.heap.size (fun _ => True) v0_ r ∧ Below w.heap.size w w' := by
 have hu31 := underlying31
 have HB := sqh w
 unfold F49.f at H
 obtain ⟨y0, hy0⟩ : ∃ y_ : List Int, y_ = (([] : List Int)) := ⟨_, rfl⟩
 replace H : (F49.l0 k y0 a0_0 a0_1) = some r := sqW hy0 H
 have Ny0 := sqa hy0
 clear hy0
 have H' := sqa H
 clear H
 go_enter func165, ntmps165
 go_wp2_with (first | ((with_reducible refine sqd 1 rfl ?_); refine sqx0 w (sqB HB) #[.int .i64 a0_0, .int .i64 a0_1] 31 fun g0 w2 B0 E0 HB => ?_) | ((with_reducible refine sqd 6 rfl ?_); refine Kd.R_lit (Kd.int .i64) _ 3 ?hg (N := 6) ?hd (xs := ([] : List Int)) (inner := []) (ok := fun _ => True) (okp := fun _ => True) ?hr ?hp (fun _ hk => hk) trivial (Below.refl _ _) (Nat.le_refl _) (by simp) ?_; (case hd => rfl); (case hg => rfl); (case hr => exact Z17); (case hp => exact Z24); intro v0 w3 ho4 hb hg_ hnew_; clear hg_ hnew_; (first | rw [← Ny0.out] at ho4 | (simp only [Int.reduceToNat] at ho4; rw [← Ny0.out] at ho4)); have O0 := sqL ho4 (sqB1 HB E0); replace B0 := sqT B0 hb; replace HB := sqS (sqB1 HB E0) hb; clear hb ho4))
 go_loopg [3] k (fun kq v3 w' => ∃ (x3_1 : List Int) (x0 : Int) (x1 : Int), Aside0 (F49.l0 kq x3_1 x0 x1 = some r) ∧ Aside0 (kq ≤ k) ∧ Aside0 (Kd.R (Kd.int .i64) 3 w' w.heap.size (fun _ => True) v3 x3_1) ∧ Aside0 (w'.heap[g0]? = some (.cells #[.int .i64 x0, .int .i64 x1] 31 (0, 0))) ∧ Aside0 (Below w.heap.size w w'))
 case atStart => exact ⟨(y0), (a0_0), (a0_1), H', ⟨Nat.le_refl _⟩, ⟨sqR O0⟩, ⟨sqK B0⟩, ⟨sqB1 HB E0⟩⟩
 case round =>
  clear H'
  obtain ⟨x3_1, x0, x1, HA, HK1, O1, B0, HB⟩ := hrel
  cases gk with
  | zero => exact absurd HA.out (by simp [F49.l0])
  | succ k1 =>
   have H := HA.out
   clear HA
   simp only [F49.l0] at H
   obtain ⟨t0, A5, H⟩ := sqD H
   obtain ⟨c6, H⟩ := sqI H
   have LMc6 := sqa c6
   clear c6
   obtain ⟨y1, hy1⟩ : ∃ y_ : List Int, y_ = (x3_1 ++ [t0]) := ⟨_, rfl⟩
   replace H : (if (wrap64 ((wrap64 (t0 * x1)) - x0)) = 0 then (some y1) else (F49.l0 k1 y1 x1 (wrap64 ((wrap64 (t0 * x1)) - x0)))) = some r := sqW hy1 H
   have Ny1 := sqa hy1
   clear hy1
   obtain ⟨c7b0, c7b1, H⟩ | ⟨c7b0, c7b1, c7, H⟩ := sqi4 H
   ·obtain rfl := sqo H
    have := sqY2 B0
    go_wp2_with (first | ((with_reducible refine sqc 180 rfl ?_); refine sqv (some 8) func180 (F70.c x0 x1 t0 _ A5.1) fun w9 hb => ?_; replace O1 := sqU O1 hb; replace B0 := sqT B0 hb; replace HB := sqS (sqB1 HB E0) hb) | ((with_reducible refine gate_builtin (b := .append) (xs := #[.tmp 9, .tmp 11]) rfl ?_); at_builtin; refine Kd.R_append (Kd.int .i64) (w0 := w) w.heap.size rfl (.tmp 9) (.tmp 11) 109 3 (.int .i64 0) 8 rfl underlying109 info3 rfl (by decide) (by omega) u3 x3_1 t0 [.int .i64 t0] (fun _ => True) (fun _ => False) rfl rfl ?aP (fun _ hk => hk.elim) ?aF ?aO ?aB ?aS ?aL ?_; (case aP => exact rfl); (case aB => exact (sqB1 HB E0)); (case aF => exact Z25); (case aO => exact (sqR O1)); (case aS => exact (below_size (sqB1 HB E0))); (case aL => exact Z2 LMc6); intro v1 w1 ho hb hg hat; rw [← Ny1.out] at ho; replace B0 := sqa (blk_grown (sqK B0) hg (Kd.R_ne O1.1 B0.1 (by decide))); replace HB := sqa (hb); have O2 := sqa (ho); clear O1; clear ho hb hg hat; have := sqY2 B0))
    go_ret
    exact ⟨_, Z5, Z26 O2, sqB1 HB E0⟩
   have H' := sqa H
   clear H
   have := sqY2 B0
   go_wp2_with (first | ((with_reducible refine sqc 180 rfl ?_); refine sqv (some 8) func180 (F70.c x0 x1 t0 _ A5.1) fun w4 hb => ?_; replace O1 := sqU O1 hb; replace B0 := sqT B0 hb; replace HB := sqS (sqB1 HB E0) hb) | ((with_reducible refine gate_builtin (b := .append) (xs := #[.tmp 9, .tmp 11]) rfl ?_); at_builtin; refine Kd.R_append (Kd.int .i64) (w0 := w) w.heap.size rfl (.tmp 9) (.tmp 11) 109 3 (.int .i64 0) 8 rfl underlying109 info3 rfl (by decide) (by omega) u3 x3_1 t0 [.int .i64 t0] (fun _ => True) (fun _ => False) rfl rfl ?aP (fun _ hk => hk.elim) ?aF ?aO ?aB ?aS ?aL ?_; (case aP => exact rfl); (case aB => exact (sqB1 HB E0)); (case aF => exact Z25); (case aO => exact (sqR O1)); (case aS => exact (below_size (sqB1 HB E0))); (case aL => exact Z2 LMc6); intro v1 w5 ho hb hg hat; rw [← Ny1.out] at ho; replace B0 := sqa (blk_grown (sqK B0) hg (Kd.R_ne O1.1 B0.1 (by decide))); replace HB := sqa (hb); have O2 := sqa (ho); clear O1; clear ho hb hg hat; have := sqY2 B0))
   go_roundg k1
   case measure => have := HK1.out; omega
   case rel => exact ⟨(y1), (x1), (wrap64 ((wrap64 (t0 * x1)) - x0)), H', ⟨Z2 HK1⟩, ⟨by (with_reducible repeat (first | apply Kd.R_alloc | apply Kd.R_drewN | apply Kd.R_drew)); exact Kd.R_mono (Kd.R_far (p := ⟨g0, 1, none⟩) (Kd.R_far (p := ⟨g0, 0, none⟩) (Kd.R_types O2.1 B0.1 (by decide)) (fun _ hk => hk.2) (.int .i64 x1)) (fun _ hk => hk.2) (.int .i64 (wrap64 ((wrap64 (t0 * x1)) - x0)))) (fun _ hk => trivial)⟩, ⟨by refine sqPut (cs := #[.int .i64 x1, .int .i64 x1]) ?_ 1; refine sqPut (cs := #[.int .i64 x0, .int .i64 x1]) ?_ 0; exact sqK B0⟩, ⟨sqB1 HB E0⟩⟩

end Go.Proofs.YtofmlbgfcohhoaaGreatDoor.PFnDeskSay
