import Derived.Test.YtofmlbgfcohhoaaGreatDoorPFnDeskSayx9
import Derived.Test.YtofmlbgfcohhoaaGreatDoorPFnDeskSayx10
set_option maxHeartbeats 8000000
set_option maxRecDepth 100000
namespace Go.Proofs.YtofmlbgfcohhoaaGreatDoor.PFnDeskSay
open Go.RowKit Go.Proofs.YtofmlbgfcohhoaaGreatDoorW.PrintWords Go.Proofs.YtofmlbgfcohhoaaGreatDoorW.PrintLast Go.Proofs.YtofmlbgfcohhoaaGreatDoorW.PrintMore Go.Proofs.YtofmlbgfcohhoaaGreatDoor.Lib Go.Proofs.Tryz
attribute [local go_sem] max2_int min2_int max_two min_two max_three min_three max_four min_four   -- for this text's walks alone
set_option linter.unusedVariables false
set_option linter.unusedSimpArgs false

mutual
def F9.j0 : Nat → Int → Bool → Int → Int → Option (ByteArray)
 | 0, _, _, _, _ => none
 | k + 1, x0, x1, x2, x3 => if x1 = true then (some (⟨#[119, 104, 97, 116]⟩ : ByteArray)) else (if x0 < 1 then (F9.j1 k x0 true x2 x3) else (F9.j1 k x0 (decide (x0 > 12)) x2 x3))
def F9.j1 : Nat → Int → Bool → Int → Int → Option (ByteArray)
 | 0, _, _, _, _ => none
 | k + 1, x0, x1, x2, x3 => if x1 = true then (some (⟨#[110, 111, 110, 101]⟩ : ByteArray)) else ((F74.f k x2 x3 x0).bind fun t0 => ((strconv_Itoa.f t0).bind fun t1 => (some t1)))
end
def F9.f (k : Nat) (a0_0 : Int) (a0_1 : Int) (a1 : ByteArray) : Option (ByteArray) := if a1.toList = ([116, 101, 120, 116] : List UInt8) then ((F35.f a0_0 a0_1).bind fun t0 => (some t0)) else (if a1.toList = ([109, 111, 118, 101, 115] : List UInt8) then ((F39.f k a0_0 a0_1 12).bind fun t1 => (if t1 = true then ((F37.f k a0_0 a0_1).bind fun t2 => (if 1 + t2.size ≤ 9223372036854775807 then (some ((⟨#[58]⟩ : ByteArray) ++ t2)) else (none))) else (some (⟨#[110, 111, 110, 101]⟩ : ByteArray)))) else (if a1.toList = ([116, 101, 114, 109, 115] : List UInt8) then ((F71.f k a0_0 a0_1).bind fun bt0 => (if bt0.2 = true then ((F29.f k bt0.1).bind fun t3 => (some t3)) else (some (⟨#[110, 111, 110, 101]⟩ : ByteArray)))) else (if a1.toList = ([99, 114, 111, 115, 115, 105, 110, 103, 115] : List UInt8) then ((F44.f k a0_0 a0_1).bind fun t4 => ((strconv_Itoa.f t4).bind fun t5 => (some t5))) else (if a1.toList = ([101, 110, 100, 115] : List UInt8) then ((F78.f k a0_0 a0_1).bind fun t6 => ((F29.f k t6).bind fun t7 => (some t7))) else (if a1.toList = ([114, 105, 110, 103, 115] : List UInt8) then ((F86.f k a0_0 a0_1).bind fun t8 => ((strconv_Itoa.f t8).bind fun t9 => (some t9))) else (if a1.toList = ([108, 105, 110, 107] : List UInt8) then ((F45.f k a0_0 a0_1).bind fun bt1 => (if bt1.2.2 = true then ((F36.f k bt1.1 bt1.2.1).bind fun bt2 => ((strconv_Itoa.f bt2.1).bind fun t10 => (if t10.size + 1 ≤ 9223372036854775807 then ((strconv_Itoa.f bt2.2).bind fun t11 => (if (t10 ++ (⟨#[58]⟩ : ByteArray)).size + t11.size ≤ 9223372036854775807 then (some ((t10 ++ (⟨#[58]⟩ : ByteArray)) ++ t11)) else (none))) else (none)))) else (some (⟨#[110, 111, 110, 101]⟩ : ByteArray)))) else ((strings_CutPrefix.f a1 (⟨#[99, 111, 108, 111, 117, 114, 115, 32]⟩ : ByteArray)).bind fun bt3 => ((strconv_Atoi.f bt3.1).bind fun bt4 => (if bt3.2 = true then (if bt4.2.isNone = true then (if bt4.1 < 0 then (F9.j0 k bt4.1 true a0_0 a0_1) else (if bt4.1 > 9999999 then (F9.j0 k bt4.1 true a0_0 a0_1) else ((strconv_Itoa.f bt4.1).bind fun t12 => (F9.j0 k bt4.1 (t12.toList != bt3.1.toList) a0_0 a0_1)))) else (F9.j0 k bt4.1 true a0_0 a0_1)) else (F9.j0 k bt4.1 true a0_0 a0_1))))))))))
def F9.T24 : Bool × List (List Nat × List Nat) := (true, [([], []), ([0], [0]), ([1], [1]), ([2], [2]), ([], []), ([4], [4]), ([5, 2], [5]), ([3, 6], [3, 6]), ([7, 6, 0, 1, 2, 3, 4, 5, 6, 7], [7])])
def F9.B24 : List Nat := [0, 1, 3, 7, 0, 16, 55, 127, 255]
theorem F9.tab24 : rtab .any (opsOf f125 24) = F9.T24 := by kernel_rfl
theorem F9.bits24 : waitsOk F9.T24.2 F9.B24 = true := by kernel_rfl
theorem F9.c (k : Nat) (a0_0 : Int) (a0_1 : Int) (a1 : ByteArray) (r : ByteArray) (w : World) (hG : Glob w) (H : F9.f k a0_0 a0_1 a1 = some r) :
  Calls prog 125 #[.agg #[.int .i64 a0_0, .int .i64 a0_1], .string a1] w fun e w' => e = .returned (.string r) ∧ Below w.heap.size w w' := by
 have hu31 := underlying31
 have hu116 := underlying116
 have hu150 := underlying150
 have HB := sqh w
 unfold F9.f at H
 obtain ⟨c3b0, c3b1, H⟩ | ⟨c3b0, c3b1, c3, H⟩ := sqi4 H
 ·obtain ⟨t0, A4, H⟩ := sqD H
  obtain rfl := sqo H
  go_enter func125, ntmps125
  go_wp2_with (first | ((with_reducible refine sqd 2 rfl ?_); refine sqx0 w (sqB HB) #[.int .i64 a0_0, .int .i64 a0_1] 31 fun g0 w5 B0 E0 HB => ?_; have := sqY2 B0) | ((with_reducible refine sqc 141 rfl ?_); refine sqv (some 17) func141 (args := #[.agg #[.int .i64 a0_0, .int .i64 a0_1]]) (F35.c a0_0 a0_1 t0 _ (Z6 E0) A4.1) fun w7 hb => ?_; replace B0 := sqT B0 hb; replace HB := sqS (sqB1 HB E0) hb))
  go_ret
  exact ⟨Z5, sqB1 HB E0⟩
 obtain ⟨c8b0, c8b1, H⟩ | ⟨c8b0, c8b1, c8, H⟩ := sqi4 H
 ·obtain ⟨t1, A9, H⟩ := sqD H
  obtain rfl | rfl := sqt t1
  ·rw [if_pos rfl] at H
   obtain ⟨t2, A0, H⟩ := sqD H
   obtain ⟨c0, c1, c2, H⟩ := sqJ5 H
   try have c4 : (9223372036854775807 < 1 + t2.size) = False := eq_false (Nat.not_lt.2 c0)
   obtain rfl := sqo H
   go_enter func125, ntmps125
   go_wp2_with (first | ((with_reducible refine sqd 2 rfl ?_); refine sqx0 w (sqB HB) #[.int .i64 a0_0, .int .i64 a0_1] 31 fun g0 w0 B0 E0 HB => ?_; have := sqY2 B0) | ((with_reducible refine sqc 104 rfl ?_); refine sqv (some 21) func104 (F39.c k a0_0 a0_1 12 true _ A9.1) fun w1 hb => ?_; replace B0 := sqT B0 hb; replace HB := sqS (sqB1 HB E0) hb; have := sqY2 B0) | ((with_reducible refine sqc 105 rfl ?_); refine sqv (some 24) func105 (F37.c k a0_0 a0_1 t2 _ A0.1) fun w2 hb => ?_; replace B0 := sqT B0 hb; replace HB := sqS (sqB1 HB E0) hb))
   go_ret
   exact ⟨Z5, sqB1 HB E0⟩
  rw [if_neg sqF] at H
  obtain rfl := sqo H
  go_enter func125, ntmps125
  go_wp2_with (first | ((with_reducible refine sqd 2 rfl ?_); refine sqx0 w (sqB HB) #[.int .i64 a0_0, .int .i64 a0_1] 31 fun g0 w3 B0 E0 HB => ?_; have := sqY2 B0) | ((with_reducible refine sqc 104 rfl ?_); refine sqv (some 21) func104 (F39.c k a0_0 a0_1 12 false _ A9.1) fun w4 hb => ?_; replace B0 := sqT B0 hb; replace HB := sqS (sqB1 HB E0) hb))
  go_ret
  exact ⟨Z5, sqB1 HB E0⟩
 obtain ⟨c5, c6, H⟩ | ⟨c5, c6, c21, H⟩ := sqi4 H
 ·obtain ⟨⟨t3, t4⟩, A1, H⟩ := sqD H
  try dsimp only at H
  obtain rfl | rfl := sqt t4
  ·rw [if_pos rfl] at H
   obtain ⟨t5, A2, H⟩ := sqD H
   obtain rfl := sqo H
   go_enter func125, ntmps125
   go_wp2_with (first | ((with_reducible refine sqd 2 rfl ?_); refine sqx0 w (sqB HB) #[.int .i64 a0_0, .int .i64 a0_1] 31 fun g0 w6 B0 E0 HB => ?_; have := sqY2 B0) | ((with_reducible refine sqc 142 rfl ?_); refine sqvo (some 30) func142 (F71.c k a0_0 a0_1 t3 true _ A1.1) fun v0 w8 ho0 hb => ?_; have O0 := sqL ho0 (sqB1 HB E0); replace B0 := sqT B0 hb; replace HB := sqS (sqB1 HB E0) hb; (try clear ho0); obtain ⟨Ao0, co0, eo0⟩ := Kd.R_slice O0.1; subst eo0) | ((with_reducible refine sqc 143 rfl ?_); refine sqv (some 36) func143 (args := #[.slice Ao0 t3.length co0]) (F29.c k _ _ t3 t5 _ (Z6 E0) (Z7 O0) (Z8 O0) A2.1) fun w9 hb => ?_; replace O0 := sqU O0 hb; replace B0 := sqT B0 hb; replace HB := sqS (sqB1 HB E0) hb))
   go_ret
   exact ⟨Z5, sqB1 HB E0⟩
  rw [if_neg sqF] at H
  obtain rfl := sqo H
  go_enter func125, ntmps125
  go_wp2_with (first | ((with_reducible refine sqd 2 rfl ?_); refine sqx0 w (sqB HB) #[.int .i64 a0_0, .int .i64 a0_1] 31 fun g0 w30 B0 E0 HB => ?_; have := sqY2 B0) | ((with_reducible refine sqc 142 rfl ?_); refine sqvo (some 30) func142 (F71.c k a0_0 a0_1 t3 false _ A1.1) fun v0 w32 ho0 hb => ?_; have O0 := sqL ho0 (sqB1 HB E0); replace B0 := sqT B0 hb; replace HB := sqS (sqB1 HB E0) hb; (try clear ho0)))
  go_ret
  exact ⟨Z5, sqB1 HB E0⟩
 obtain ⟨c11, c13, H⟩ | ⟨c11, c13, c9, H⟩ := sqi4 H
 ·obtain ⟨t6, A3, H⟩ := sqD H
  obtain ⟨t7, A5, H⟩ := sqD H
  obtain rfl := sqo H
  go_enter func125, ntmps125
  go_wp2_with (first | ((with_reducible refine sqd 2 rfl ?_); refine sqx0 w (sqB HB) #[.int .i64 a0_0, .int .i64 a0_1] 31 fun g0 w36 B0 E0 HB => ?_; have := sqY2 B0) | ((with_reducible refine sqc 145 rfl ?_); refine sqv (some 40) func145 (F44.c k a0_0 a0_1 t6 _ A3.1) fun w38 hb => ?_; replace B0 := sqT B0 hb; replace HB := sqS (sqB1 HB E0) hb) | ((with_reducible refine sqc 144 rfl ?_); refine sqv (some 41) func144 (args := #[.int .i64 t6]) (strconv_Itoa.calls t6 t7 _ (Z6 E0) A5.1) fun w39 hb => ?_; replace B0 := sqT B0 hb; replace HB := sqS (sqB1 HB E0) hb))
  go_ret
  exact ⟨Z5, sqB1 HB E0⟩
 obtain ⟨c15, c16, H⟩ | ⟨c15, c16, c40, H⟩ := sqi4 H
 ·obtain ⟨t8, A6, H⟩ := sqD H
  obtain ⟨t9, A7, H⟩ := sqD H
  obtain rfl := sqo H
  go_enter func125, ntmps125
  go_wp2_with (first | ((with_reducible refine sqd 2 rfl ?_); refine sqx0 w (sqB HB) #[.int .i64 a0_0, .int .i64 a0_1] 31 fun g0 w43 B0 E0 HB => ?_; have := sqY2 B0) | ((with_reducible refine sqc 146 rfl ?_); refine sqvo (some 45) func146 (F78.c k a0_0 a0_1 t8 _ A6.1) fun v1 w45 ho0 hb => ?_; have O1 := sqL ho0 (sqB1 HB E0); replace B0 := sqT B0 hb; replace HB := sqS (sqB1 HB E0) hb; (try clear ho0); obtain ⟨Ao1, co1, eo1⟩ := Kd.R_slice O1.1; subst eo1) | ((with_reducible refine sqc 143 rfl ?_); refine sqv (some 46) func143 (args := #[.slice Ao1 t8.length co1]) (F29.c k _ _ t8 t9 _ (Z6 E0) (Z7 O1) (Z8 O1) A7.1) fun w47 hb => ?_; replace O1 := sqU O1 hb; replace B0 := sqT B0 hb; replace HB := sqS (sqB1 HB E0) hb))
  go_ret
  exact ⟨Z5, sqB1 HB E0⟩
 obtain ⟨c18, c19, H⟩ | ⟨c18, c19, c48, H⟩ := sqi4 H
 ·obtain ⟨t10, A8, H⟩ := sqD H
  obtain ⟨t11, A50, H⟩ := sqD H
  obtain rfl := sqo H
  go_enter func125, ntmps125
  go_wp2_with (first | ((with_reducible refine sqd 2 rfl ?_); refine sqx0 w (sqB HB) #[.int .i64 a0_0, .int .i64 a0_1] 31 fun g0 w51 B0 E0 HB => ?_; have := sqY2 B0) | ((with_reducible refine sqc 147 rfl ?_); refine sqv (some 50) func147 (F86.c k a0_0 a0_1 t10 _ A8.1) fun w53 hb => ?_; replace B0 := sqT B0 hb; replace HB := sqS (sqB1 HB E0) hb) | ((with_reducible refine sqc 144 rfl ?_); refine sqv (some 51) func144 (args := #[.int .i64 t10]) (strconv_Itoa.calls t10 t11 _ (Z6 E0) A50.1) fun w54 hb => ?_; replace B0 := sqT B0 hb; replace HB := sqS (sqB1 HB E0) hb))
  go_ret
  exact ⟨Z5, sqB1 HB E0⟩
 obtain ⟨c22, c24, H⟩ | ⟨c22, c24, c55, H⟩ := sqi4 H
 ·obtain ⟨⟨t12, t13, t14⟩, A56, H⟩ := sqD H
  try dsimp only at H
  obtain rfl | rfl := sqt t14
  ·rw [if_pos rfl] at H
   obtain ⟨⟨t15, t16⟩, A58, H⟩ := sqD H
   try dsimp only at H
   obtain ⟨t17, A59, H⟩ := sqD H
   obtain ⟨c60, c27, c28, H⟩ := sqJ5 H
   try have c29 : (9223372036854775807 < t17.size + 1) = False := eq_false (Nat.not_lt.2 c60)
   obtain ⟨t18, A61, H⟩ := sqD H
   obtain ⟨c62, c31, c32, H⟩ := sqJ5 H
   try have c34 : (9223372036854775807 < (t17 ++ (⟨#[58]⟩ : ByteArray)).size + t18.size) = False := eq_false (Nat.not_lt.2 c62)
   try have c35 : (9223372036854775807 < t17.size + 1 + t18.size) = False := by (have h_ := c34; (repeat rw [ByteArray.size_append] at h_); exact h_)
   obtain rfl := sqo H
   go_enter func125, ntmps125
   try go_wp2_with (first | ((with_reducible refine sqd 2 rfl ?_); refine sqx0 w (sqB HB) #[.int .i64 a0_0, .int .i64 a0_1] 31 fun g0 w63 B0 E0 HB => ?_; have := sqY2 B0) | ((with_reducible refine sqc 148 rfl ?_); refine sqv (some 56) func148 (F45.c k a0_0 a0_1 t12 t13 true _ A56.1) fun w65 hb => ?_; replace B0 := sqT B0 hb; replace HB := sqS (sqB1 HB E0) hb) | ((with_reducible refine sqd 7 rfl ?_); refine sqx1 w (sqB1 HB E0) #[.int .i64 0, .int .i64 0] 116 B0 fun g1 w66 B2 E1 HB N0 N1 B0 => ?_; have := sqn2 N1 N0; have := sqY2 B2) | ((with_reducible refine sqc 149 rfl ?_); refine sqv (some 62) func149 (F36.c k t12 t13 t15 t16 _ A58.1) fun w69 hb => ?_; replace B0 := sqH N0 B0 hb; replace B2 := sqa (blk_below (g := g1) (o := .cells #[.int .i64 t12, .int .i64 t13] 116 (0, 0)) (by refine sqPut (cs := #[.int .i64 t12, .int .i64 0]) ?_ 1; refine sqPut (cs := #[.int .i64 0, .int .i64 0]) ?_ 0; exact sqK B2) hb); replace HB := sqS (sqB2 HB E0 E1) hb; have := sqY2 B2))
   obtain ⟨w71, hw_⟩ : ∃ w_, (w69.setCell ⟨g1, 0, none⟩ (.int .i64 t15)).setCell ⟨g1, 1, none⟩ (.int .i64 t16) = w_ := ⟨_, rfl⟩
   replace B0 := sqJ hw_ N0 B0
   replace B2 : Aside0 (w71.heap[g1]? = some (.cells #[.int .i64 t15, .int .i64 t16] 116 (0, 0))) := by rw [← hw_]; exact ⟨by refine sqPut (cs := #[.int .i64 t15, .int .i64 t13]) ?_ 1; refine sqPut (cs := #[.int .i64 t12, .int .i64 t13]) ?_ 0; exact sqK B2⟩
   replace HB : Aside0 (Below w.heap.size w w71) := by rw [← hw_]; exact ⟨sqB2 HB E0 E1⟩
   rw [hw_]; clear hw_
   replace B0 := sqa (blk_drew B0.1)
   replace B2 := sqa (blk_drew B2.1)
   replace HB := sqa (below_drew1 HB.1)
   refine start_ (n := 9) (S := fun w' => w'.cell? ⟨g1, 0, none⟩ = some (.int .i64 t15) ∧ w'.cell? ⟨g1, 1, none⟩ = some (.int .i64 t16)) (ds := []) #[false, false, false, false, false, false, false, false, false] (by kernel_rfl) rfl rfl (sqk1 B2) (fun hHeld => ?_); refine with_tabW F9.tab24 F9.bits24 (fun HT_ HW_ => ?_)
   generalize w71.drew = w72 at B0 B2 HB hHeld ⊢
   refine sqP 0 (some 63) (h := ?_)
   refine sqP 4 (some 67) (h := ?_)
   refine sqQ 1 (some 64) hHeld (h := ?_)
   refine sqQ 5 (some 68) hHeld (h := ?_)
   refine sq1 2 (some 65) (h := fun K hK => ?_)
   refine sqg func144 #[.int .i64 t15] ?_
   with_reducible refine (strconv_Itoa.calls t15 t17 _ ?sideG A59.1).mono ?_
   (case sideG => exact Z10 E0 E1)
   rintro e w73 ⟨rfl, hb⟩
   refine ⟨_, rfl, ?_⟩
   replace B0 := sqT B0 hb
   replace B2 := sqT B2 hb
   replace HB := sqS (sqB2 HB E0 E1) hb
   refine hK.out _ _ (sqk1 B2) (fun hHeld => ?_)
   clear hK K
   refine sqN (some 65) ?_
   refine sqP 3 (some 66) (h := ?_)
   refine sq1 6 (some 69) (h := fun K hK => ?_)
   refine sqg func144 #[.int .i64 t16] ?_
   with_reducible refine (strconv_Itoa.calls t16 t18 _ ?sideG A61.1).mono ?_
   (case sideG => exact Z10 E0 E1)
   rintro e w74 ⟨rfl, hb⟩
   refine ⟨_, rfl, ?_⟩
   replace B0 := sqT B0 hb
   replace B2 := sqT B2 hb
   replace HB := sqS (sqB2 HB E0 E1) hb
   refine hK.out _ _ (sqk1 B2) (fun hHeld => ?_)
   clear hK K
   refine sqN (some 69) ?_
   refine sqP 7 (some 70) (h := ?_)
   refine sqP 8 (some 4) (h := ?_)
   refine done_ (done_of HT_.out (by kernel_rfl)) ?_
   try go_wp2
   go_ret
   exact ⟨Z5, sqB2 HB E0 E1⟩
  rw [if_neg sqF] at H
  obtain rfl := sqo H
  go_enter func125, ntmps125
  go_wp2_with (first | ((with_reducible refine sqd 2 rfl ?_); refine sqx0 w (sqB HB) #[.int .i64 a0_0, .int .i64 a0_1] 31 fun g0 w75 B0 E0 HB => ?_; have := sqY2 B0) | ((with_reducible refine sqc 148 rfl ?_); refine sqv (some 56) func148 (F45.c k a0_0 a0_1 t12 t13 false _ A56.1) fun w77 hb => ?_; replace B0 := sqT B0 hb; replace HB := sqS (sqB1 HB E0) hb) | ((with_reducible refine sqd 7 rfl ?_); refine sqx1 w (sqB1 HB E0) #[.int .i64 0, .int .i64 0] 116 B0 fun g1 w78 B2 E1 HB N0 N1 B0 => ?_; have := sqn2 N1 N0; have := sqY2 B2))
  go_ret
  exact ⟨Z5, sqB2 HB E0 E1⟩
 obtain ⟨⟨t19, t20⟩, A81, H⟩ := sqD H
 try dsimp only at H
 obtain ⟨⟨t21, t22⟩, A82, H⟩ := sqD H
 try dsimp only at H
 have HC0 := sqa H
 clear H
 go_enter func125, ntmps125
 go_upto_region 27 with (first | ((with_reducible refine sqd 2 rfl ?_); refine sqx0 w (sqB HB) #[.int .i64 a0_0, .int .i64 a0_1] 31 fun g0 w84 B0 E0 HB => ?_) | ((with_reducible refine sqc 150 rfl ?_); refine sqC (some 73) func150 #[.string a1, .string (⟨#[99, 111, 108, 111, 117, 114, 115, 32]⟩ : ByteArray)] ?_; (with_reducible refine (strings_CutPrefix.calls a1 (⟨#[99, 111, 108, 111, 117, 114, 115, 32]⟩ : ByteArray) t19 t20 _ A81.1).mono ?_); rintro e w' ⟨rfl, ⟨nd, rfl⟩⟩; refine ⟨_, rfl, ?_⟩) | ((with_reducible refine sqc 151 rfl ?_); refine sqC (some 78) func151 #[.string t19] ?_; (with_reducible refine (strconv_Atoi.calls t19 t21 t22 _ ?sideG A82.1).mono ?_); (case sideG => exact Z6 E0); rintro e w85 ⟨q_t0, hq_t0, rfl, hb⟩; refine ⟨_, rfl, ?_⟩; replace B0 := sqT B0 hb; replace HB := sqS (sqB1 HB E0) hb; (try simp only [errP_none, errP_some])))
 (try simp only [Act.put, List.setIfInBounds_toArray, List.set_cons_zero, List.set_cons_succ])
 go_cut [100] (fun v2 wc => ∃ (kq : Nat) (x0 : Bool), v2 = .bool x0 ∧ Aside0 (F9.j0 kq t21 x0 a0_0 a0_1 = some r) ∧ Aside0 (kq ≤ k) ∧ Aside0 (wc.heap[g0]? = some (.cells #[.int .i64 a0_0, .int .i64 a0_1] 31 (0, 0))) ∧ Aside0 (Below w.heap.size w wc))
 case first =>
  have H := HC0.1
  clear HC0
  obtain rfl | rfl := sqt t20
  ·rw [if_pos rfl] at H
   rcases t22 with _ | q0
   ·obtain rfl := isNone_none hq_t0
    have H1 : (if t21 < 0 then (F9.j0 k t21 true a0_0 a0_1) else (if t21 > 9999999 then (F9.j0 k t21 true a0_0 a0_1) else ((strconv_Itoa.f t21).bind fun t23 => (F9.j0 k t21 (t23.toList != t19.toList) a0_0 a0_1)))) = some r := by rw [if_pos (show (none : Option Int).isNone = true by rfl)] at H; exact H
    clear H
    have H := H1
    clear H1
    try simp only [errP_none, errP_some]
    obtain ⟨c38, H⟩ | ⟨c38, H⟩ := sqi3 H
    ·(first | rw [c38] | (simp only [i64_w, i32_w]; rw [c38]) | skip)
     have H' := sqa H
     clear H
     go_wp2
     go_meet
     case rel => exact ⟨_, (true), Z1, H', ⟨Z11⟩, ⟨sqK B0⟩, ⟨sqB1 HB E0⟩⟩
    (first | rw [c38] | (simp only [i64_w, i32_w]; rw [c38]) | skip)
    obtain ⟨c41, H⟩ | ⟨c41, H⟩ := sqi3g H
    ·have H' := sqa H
     clear H
     go_wp2
     go_meet
     case rel => exact ⟨_, (true), Z1, H', ⟨Z11⟩, ⟨sqK B0⟩, ⟨sqB1 HB E0⟩⟩
    obtain ⟨t23, A89, H⟩ := sqD H
    have H' := sqa H
    clear H
    go_wp2_with (first | (go_at_call 144; (with_reducible refine (strconv_Itoa.calls t21 t23 _ ?sideG A89.1).mono ?_); (case sideG => exact Z6 E0); rintro e w90 ⟨rfl, hb⟩; replace B0 := sqT B0 hb; replace HB := sqS (sqB1 HB E0) hb))
    go_meet
    case rel => exact ⟨_, ((t23.toList != t19.toList)), Z1, H', ⟨Z11⟩, ⟨sqK B0⟩, ⟨sqB1 HB E0⟩⟩
   ·obtain ⟨qz_, rfl⟩ := isNone_some hq_t0
    have H1 : (F9.j0 k t21 true a0_0 a0_1) = some r := by rw [if_neg (show ¬ (some q0).isNone = true by simp)] at H; exact H
    clear H
    have H := H1
    clear H1
    try simp only [errP_none, errP_some]
    have H' := sqa H
    clear H
    go_wp2
    go_meet
    case rel => exact ⟨_, (true), Z1, H', ⟨Z11⟩, ⟨sqK B0⟩, ⟨sqB1 HB E0⟩⟩
  rw [if_neg sqF] at H
  have H' := sqa H
  clear H
  go_wp2
  go_meet
  case rel => exact ⟨_, (true), Z1, H', ⟨Z11⟩, ⟨sqK B0⟩, ⟨sqB1 HB E0⟩⟩
 case rest =>
  clear HC0
  obtain ⟨kq, x0, rfl, HA, HJ0, B0, HB⟩ := hcut
  cases kq with
  | zero => exact absurd HA.out (by simp [F9.j0])
  | succ kj0 =>
   have H := HA.out
   clear HA
   simp only [F9.j0] at H
   obtain rfl | rfl := sqt x0
   ·rw [if_pos rfl] at H
    obtain rfl := sqo H
    go_wp2
    go_ret
    exact ⟨Z5, sqB1 HB E0⟩
   rw [if_neg sqF] at H
   have HC1 := sqa H
   clear H
   go_upto_region 29 with (fail)
   go_cut [106] (fun v3 wc => ∃ (kq : Nat) (x1 : Bool), v3 = .bool x1 ∧ Aside0 (F9.j1 kq t21 x1 a0_0 a0_1 = some r) ∧ Aside0 (kq ≤ kj0) ∧ Aside0 (wc.heap[g0]? = some (.cells #[.int .i64 a0_0, .int .i64 a0_1] 31 (0, 0))) ∧ Aside0 (Below w.heap.size w wc))
   case first =>
    have H := HC1.1
    clear HC1
    obtain ⟨c44, H⟩ | ⟨c44, H⟩ := sqi3 H
    ·(first | rw [c44] | (simp only [i64_w, i32_w]; rw [c44]) | skip)
     have H' := sqa H
     clear H
     go_wp2
     go_meet
     case rel => exact ⟨_, (true), Z1, H', ⟨by have := HJ0.out; first | omega | exact Nat.le_refl _⟩, ⟨sqK B0⟩, ⟨sqB1 HB E0⟩⟩
    (first | rw [c44] | (simp only [i64_w, i32_w]; rw [c44]) | skip)
    have H' := sqa H
    clear H
    go_wp2
    go_meet
    case rel => exact ⟨_, (decide (t21 > 12)), Z1, H', ⟨by have := HJ0.out; first | omega | exact Nat.le_refl _⟩, ⟨sqK B0⟩, ⟨sqB1 HB E0⟩⟩
   case rest =>
    clear HC1
    obtain ⟨kq, x1, rfl, HA, HJ1, B0, HB⟩ := hcut
    cases kq with
    | zero => exact absurd HA.out (by simp [F9.j1])
    | succ kj1 =>
     have H := HA.out
     clear HA
     simp only [F9.j1] at H
     obtain rfl | rfl := sqt x1
     ·rw [if_pos rfl] at H
      obtain rfl := sqo H
      go_wp2
      go_ret
      exact ⟨Z5, sqB1 HB E0⟩
     rw [if_neg sqF] at H
     obtain ⟨t24, A95, H⟩ := sqD H
     obtain ⟨t25, A96, H⟩ := sqD H
     obtain rfl := sqo H
     have := sqY2 B0
     go_wp2_with (first | ((with_reducible refine sqc 152 rfl ?_); refine sqv (some 109) func152 (F74.c kj1 a0_0 a0_1 t21 t24 _ A95.1) fun w98 hb => ?_; replace B0 := sqT B0 hb; replace HB := sqS (sqB1 HB E0) hb) | ((with_reducible refine sqc 144 rfl ?_); refine sqv (some 110) func144 (args := #[.int .i64 t24]) (strconv_Itoa.calls t24 t25 _ (Z6 E0) A96.1) fun w99 hb => ?_; replace B0 := sqT B0 hb; replace HB := sqS (sqB1 HB E0) hb))
     go_ret
     exact ⟨Z5, sqB1 HB E0⟩

end Go.Proofs.YtofmlbgfcohhoaaGreatDoor.PFnDeskSay
