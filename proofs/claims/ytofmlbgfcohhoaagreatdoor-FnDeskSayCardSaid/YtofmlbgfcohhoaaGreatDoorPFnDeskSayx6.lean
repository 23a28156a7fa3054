import Derived.Test.YtofmlbgfcohhoaaGreatDoorPFnDeskSayx5
set_option maxHeartbeats 8000000
set_option maxRecDepth 100000
namespace Go.Proofs.YtofmlbgfcohhoaaGreatDoor.PFnDeskSay
open Go.RowKit Go.Proofs.YtofmlbgfcohhoaaGreatDoorW.PrintWords Go.Proofs.YtofmlbgfcohhoaaGreatDoorW.PrintLast Go.Proofs.YtofmlbgfcohhoaaGreatDoorW.PrintMore Go.Proofs.YtofmlbgfcohhoaaGreatDoor.Lib Go.Proofs.Tryz
attribute [local go_sem] max2_int min2_int max_two min_two max_three min_three max_four min_four   -- for this text's walks alone
set_option linter.unusedVariables false
set_option linter.unusedSimpArgs false

def F35.f (a0_0 : Int) (a0_1 : Int) : Option (ByteArray) := if a0_1 = 1 then ((strconv_Itoa.f a0_0).bind fun t0 => (some t0)) else ((strconv_Itoa.f a0_0).bind fun t167 => (if t167.size + 1 ≤ 9223372036854775807 then ((strconv_Itoa.f a0_1).bind fun t168 => (if (t167 ++ (⟨#[47]⟩ : ByteArray)).size + t168.size ≤ 9223372036854775807 then (some ((t167 ++ (⟨#[47]⟩ : ByteArray)) ++ t168)) else (none))) else (none)))
def F35.T3 : Bool × List (List Nat × List Nat) := (true, [([], []), ([0], [0]), ([1], [1]), ([2], [2]), ([], []), ([4], [4]), ([5, 2], [5]), ([3, 6], [3, 6]), ([7, 6, 0, 1, 2, 3, 4, 5, 6, 7], [7])])
def F35.B3 : List Nat := [0, 1, 3, 7, 0, 16, 55, 127, 255]
theorem F35.tab3 : rtab .any (opsOf f141 3) = F35.T3 := by kernel_rfl
theorem F35.bits3 : waitsOk F35.T3.2 F35.B3 = true := by kernel_rfl
theorem F35.c (a0_0 : Int) (a0_1 : Int) (r : ByteArray) (w : World) (hG : Glob w) (H : F35.f a0_0 a0_1 = some r) :
  Calls prog 141 #[.agg #[.int .i64 a0_0, .int .i64 a0_1]] w fun e w' => e = .returned (.string r) ∧ Below w.heap.size w w' := by
 have hu31 := underlying31
 have HB := sqh w
 unfold F35.f at H
 obtain ⟨c2b0, c2b1, H⟩ | ⟨c2b0, c2b1, c2, H⟩ := sqi4 H
 ·obtain ⟨t0, A3, H⟩ := sqD H
  obtain rfl := sqo H
  go_enter func141, ntmps141
  go_wp2_with (first | ((with_reducible refine sqd 1 rfl ?_); refine sqx0 w (sqB HB) #[.int .i64 a0_0, .int .i64 a0_1] 31 fun g0 w4 B0 E0 HB => ?_; have := sqY2 B0) | ((with_reducible refine sqc 144 rfl ?_); refine sqv (some 8) func144 (args := #[.int .i64 a0_0]) (strconv_Itoa.calls a0_0 t0 _ (Z6 E0) A3.1) fun w6 hb => ?_; replace B0 := sqT B0 hb; replace HB := sqS (sqB1 HB E0) hb))
  go_ret
  exact ⟨Z5, sqB1 HB E0⟩
 obtain ⟨t167, A7, H⟩ := sqD H
 obtain ⟨c8, c8b0, c8b1, H⟩ := sqJ5 H
 try have c8b2 : (9223372036854775807 < t167.size + 1) = False := eq_false (Nat.not_lt.2 c8)
 obtain ⟨t168, A9, H⟩ := sqD H
 obtain ⟨c10, c0, c1, H⟩ := sqJ5 H
 try have c3 : (9223372036854775807 < (t167 ++ (⟨#[47]⟩ : ByteArray)).size + t168.size) = False := eq_false (Nat.not_lt.2 c10)
 try have c4 : (9223372036854775807 < t167.size + 1 + t168.size) = False := by (have h_ := c3; (repeat rw [ByteArray.size_append] at h_); exact h_)
 obtain rfl := sqo H
 go_enter func141, ntmps141
 try go_wp2_with (first | ((with_reducible refine sqd 1 rfl ?_); refine sqx0 w (sqB HB) #[.int .i64 a0_0, .int .i64 a0_1] 31 fun g0 w0 B0 E0 HB => ?_; have := sqY2 B0))
 replace B0 := sqa (blk_drew B0.1)
 replace HB := sqa (below_drew1 HB.1)
 refine start_ (n := 9) (S := fun w' => w'.cell? ⟨g0, 0, none⟩ = some (.int .i64 a0_0) ∧ w'.cell? ⟨g0, 1, none⟩ = some (.int .i64 a0_1)) (ds := []) #[false, false, false, false, false, false, false, false, false] (by kernel_rfl) rfl rfl (sqk1 B0) (fun hHeld => ?_); refine with_tabW F35.tab3 F35.bits3 (fun HT_ HW_ => ?_)
 generalize w0.drew = w1 at B0 HB hHeld ⊢
 refine sqP 0 (some 9) (h := ?_)
 refine sqP 4 (some 13) (h := ?_)
 refine sqQ 1 (some 10) hHeld (h := ?_)
 refine sqQ 5 (some 14) hHeld (h := ?_)
 refine sq1 2 (some 11) (h := fun K hK => ?_)
 refine sqg func144 #[.int .i64 a0_0] ?_
 with_reducible refine (strconv_Itoa.calls a0_0 t167 _ ?sideG A7.1).mono ?_
 (case sideG => exact Z6 E0)
 rintro e w2 ⟨rfl, hb⟩
 refine ⟨_, rfl, ?_⟩
 replace B0 := sqT B0 hb
 replace HB := sqS (sqB1 HB E0) hb
 refine hK.out _ _ (sqk1 B0) (fun hHeld => ?_)
 clear hK K
 refine sqN (some 11) ?_
 refine sqP 3 (some 12) (h := ?_)
 refine sq1 6 (some 15) (h := fun K hK => ?_)
 refine sqg func144 #[.int .i64 a0_1] ?_
 with_reducible refine (strconv_Itoa.calls a0_1 t168 _ ?sideG A9.1).mono ?_
 (case sideG => exact Z6 E0)
 rintro e w3 ⟨rfl, hb⟩
 refine ⟨_, rfl, ?_⟩
 replace B0 := sqT B0 hb
 replace HB := sqS (sqB1 HB E0) hb
 refine hK.out _ _ (sqk1 B0) (fun hHeld => ?_)
 clear hK K
 refine sqN (some 15) ?_
 refine sqP 7 (some 16) (h := ?_)
 refine sqP 8 (some 2) (h := ?_)
 refine done_ (done_of HT_.out (by kernel_rfl)) ?_
 try go_wp2
 go_ret
 exact ⟨Z5, sqB1 HB E0⟩

-- given: function 151 (strconv_Atoi)

def F27.j0 : Nat → ByteArray → Int → Option Int → Int → Option (Int × Int × Bool)
 | 0, _, _, _, _ => none
 | k + 1, x0, x7, x8, x9 => if x8.isNone = true then ((F3.f k x7 x9).bind fun t0 => (if t0 = true then ((F35.f x7 x9).bind fun t1 => (if t1.toList = x0.toList then (some (x7, x9, true)) else (some (0, 0, false)))) else (some (0, 0, false)))) else (some (0, 0, false))
def F27.f (k : Nat) (a0 : ByteArray) : Option (Int × Int × Bool) := (strings_Cut.f a0 (⟨#[47]⟩ : ByteArray)).bind fun bt0 => ((strconv_Atoi.f bt0.1).bind fun bt1 => (if bt0.2.2 = true then ((strconv_Atoi.f bt0.2.1).bind fun bt2 => (if bt2.2.isNone = true then (F27.j0 k a0 bt1.1 bt1.2 bt2.1) else (some (0, 0, false)))) else (F27.j0 k a0 bt1.1 bt1.2 1)))
theorem F27.c (k : Nat) (a0 : ByteArray) (r1 : Int) (r2 : Int) (r3 : Bool) (w : World) (hG : Glob w) (H : F27.f k a0 = some (r1, r2, r3)) :
  Calls prog 126 #[.string a0] w fun e w' => e = .returned (.tuple #[.agg #[.int .i64 r1, .int .i64 r2], .bool r3]) ∧ Below w.heap.size w w' := by
 have hu31 := underlying31
 have hu150 := underlying150
 have HB := sqh w
 unfold F27.f at H
 obtain ⟨⟨t0, t171, t1⟩, A2, H⟩ := sqD H
 try dsimp only at H
 obtain ⟨⟨t173, t2⟩, A3, H⟩ := sqD H
 try dsimp only at H
 have HC4 := sqa H
 clear H
 go_enter func126, ntmps126
 go_upto_if 24 with (first | ((with_reducible refine sqd 2 rfl ?_); refine sqx0 w (sqB HB) #[.int .i64 0, .int .i64 0] 31 fun g0 w5 B0 E0 HB => ?_) | ((with_reducible refine sqc 84 rfl ?_); refine sqv (some 15) func84 (args := #[.string a0, .string (⟨#[47]⟩ : ByteArray)]) (strings_Cut.calls a0 (⟨#[47]⟩ : ByteArray) t0 t171 t1 _ (Z6 E0) A2.1) fun w6 hb => ?_; replace B0 := sqT B0 hb; replace HB := sqS (sqB1 HB E0) hb) | ((with_reducible refine sqc 151 rfl ?_); refine sqC (some 21) func151 #[.string t0] ?_; (with_reducible refine (strconv_Atoi.calls t0 t173 t2 _ ?sideG A3.1).mono ?_); (case sideG => exact Z6 E0); rintro e w7 ⟨q_t0, hq_t0, rfl, hb⟩; refine ⟨_, rfl, ?_⟩; replace B0 := sqT B0 hb; replace HB := sqS (sqB1 HB E0) hb; (try simp only [errP_none, errP_some])))
 (try simp only [Act.put, List.setIfInBounds_toArray, List.set_cons_zero, List.set_cons_succ])
 go_cut [9] (fun v9 wc => ∃ (kq : Nat) (x9_3 : Int) (x170000_3 : Int) (x170001_3 : Int), v9 = .int .i64 x9_3 ∧ Aside0 (F27.j0 kq a0 t173 t2 x9_3 = some (r1, r2, r3)) ∧ Aside0 (kq ≤ k) ∧ Aside0 (wc.heap[g0]? = some (.cells #[.int .i64 x170000_3, .int .i64 x170001_3] 31 (0, 0))) ∧ Aside0 (Below w.heap.size w wc))
 case first =>
  have H := HC4.1
  clear HC4
  obtain rfl | rfl := sqt t1
  ·rw [if_pos rfl] at H
   obtain ⟨⟨t175, t3⟩, A9, H⟩ := sqD H
   try dsimp only at H
   rcases t3 with _ | q0
   ·have H1 : (F27.j0 k a0 t173 t2 t175) = some (r1, r2, r3) := by rw [if_pos (show (none : Option Int).isNone = true by rfl)] at H; exact H
    clear H
    have H := H1
    clear H1
    try simp only [errP_none, errP_some]
    have H' := sqa H
    clear H
    go_wp2_with (first | ((with_reducible refine sqc 151 rfl ?_); refine sqC (some 27) func151 #[.string t171] ?_; (with_reducible refine (strconv_Atoi.calls t171 t175 none _ ?sideG A9.1).mono ?_); (case sideG => exact Z6 E0); rintro e w0 ⟨qe, hqe, rfl, hb⟩; obtain rfl := isNone_none hqe; refine ⟨_, rfl, ?_⟩; replace B0 := sqT B0 hb; replace HB := sqS (sqB1 HB E0) hb; (try simp only [errP_none, errP_some])))
    go_meet
    case rel => exact ⟨_, (t175), (0), (0), Z1, H', ⟨Z11⟩, ⟨sqK B0⟩, ⟨sqB1 HB E0⟩⟩
   ·have H1 : (some (0, 0, false)) = some (r1, r2, r3) := by rw [if_neg (show ¬ (some q0).isNone = true by simp)] at H; exact H
    clear H
    have H := H1
    clear H1
    try simp only [errP_none, errP_some]
    obtain ⟨rfl, rfl, rfl⟩ := sqO3 H
    go_wp2_with (first | ((with_reducible refine sqc 151 rfl ?_); refine sqC (some 27) func151 #[.string t171] ?_; (with_reducible refine (strconv_Atoi.calls t171 t175 (some q0) _ ?sideG A9.1).mono ?_); (case sideG => exact Z6 E0); rintro e w1 ⟨qe, hqe, rfl, hb⟩; obtain ⟨qz, rfl⟩ := isNone_some hqe; refine ⟨_, rfl, ?_⟩; replace B0 := sqT B0 hb; replace HB := sqS (sqB1 HB E0) hb; (try simp only [errP_none, errP_some]); have := sqY2 B0))
    refine sqE g0 31 #[.int .i64 0, .int .i64 0] (Z12 B0) underlying31 ?_
    exact ⟨Z5, sqB1 HB E0⟩
  rw [if_neg sqF] at H
  have H' := sqa H
  clear H
  go_wp2
  go_meet
  case rel => exact ⟨_, (1), (0), (0), Z1, H', ⟨Z11⟩, ⟨sqK B0⟩, ⟨sqB1 HB E0⟩⟩
 case rest =>
  clear HC4
  obtain ⟨kq, x9_3, x170000_3, x170001_3, rfl, HA, HJ3, B0, HB⟩ := hcut
  cases kq with
  | zero => exact absurd HA.out (by simp [F27.j0])
  | succ kj3 =>
   have H := HA.out
   clear HA
   simp only [F27.j0] at H
   rcases t2 with _ | q1
   ·obtain rfl := isNone_none hq_t0
    have H1 : ((F3.f kj3 t173 x9_3).bind fun t4 => (if t4 = true then ((F35.f t173 x9_3).bind fun t5 => (if t5.toList = a0.toList then (some (t173, x9_3, true)) else (some (0, 0, false)))) else (some (0, 0, false)))) = some (r1, r2, r3) := by rw [if_pos (show (none : Option Int).isNone = true by rfl)] at H; exact H
    clear H
    have H := H1
    clear H1
    try simp only [errP_none, errP_some]
    obtain ⟨t4, A0, H⟩ := sqD H
    obtain rfl | rfl := sqt t4
    ·rw [if_pos rfl] at H
     obtain ⟨t5, A1, H⟩ := sqD H
     obtain ⟨c2, c3, H⟩ | ⟨c2, c3, c1, H⟩ := sqi4 H
     ·obtain ⟨rfl, rfl, rfl⟩ := sqO3 H
      go_wp2_with (first | ((with_reducible refine sqd 12 rfl ?_); refine sqx1 w (sqB1 HB E0) #[.int .i64 0, .int .i64 0] 31 B0 fun g1 w2 B2 E1 HB N0 N1 B0 => ?_; have := sqn2 N1 N0; have := sqY2 B2) | (go_at_call 70; (with_reducible refine (F3.c kj3 t173 x9_3 true _ A0.1).mono ?_); rintro e w3 ⟨rfl, hb⟩; replace B0 := sqH N0 B0 hb; replace B2 := sqa (blk_below (g := g1) (o := .cells #[.int .i64 t173, .int .i64 x9_3] 31 (0, 0)) (Z107 B2) hb); replace HB := sqS (sqB2 HB E0 E1) hb; have := sqY2 B2) | (go_at_call 141; (with_reducible refine (F35.c t173 x9_3 t5 _ ?sideG A1.1).mono ?_); (case sideG => exact Z10 E0 E1); rintro e w4 ⟨rfl, hb⟩; obtain ⟨B0, B2⟩ := sqT2 hb B0 B2; replace HB := sqS (sqB2 HB E0 E1) hb; have := sqY2 B2; have := sqY2 B0))
      refine sqE g0 31 #[.int .i64 t173, .int .i64 x9_3] (by refine sqPut (cs := #[.int .i64 t173, .int .i64 x170001_3]) ?_ 1; refine sqPut (cs := #[.int .i64 x170000_3, .int .i64 x170001_3]) ?_ 0; exact sqK B0) underlying31 ?_
      exact ⟨Z5, sqB2 HB E0 E1⟩
     obtain ⟨rfl, rfl, rfl⟩ := sqO3 H
     go_wp2_with (first | ((with_reducible refine sqd 12 rfl ?_); refine sqx1 w (sqB1 HB E0) #[.int .i64 0, .int .i64 0] 31 B0 fun g1 w8 B2 E1 HB N0 N1 B0 => ?_; have := sqn2 N1 N0; have := sqY2 B2) | (go_at_call 70; (with_reducible refine (F3.c kj3 t173 x9_3 true _ A0.1).mono ?_); rintro e w9 ⟨rfl, hb⟩; replace B0 := sqH N0 B0 hb; replace B2 := sqa (blk_below (g := g1) (o := .cells #[.int .i64 t173, .int .i64 x9_3] 31 (0, 0)) (Z107 B2) hb); replace HB := sqS (sqB2 HB E0 E1) hb; have := sqY2 B2) | (go_at_call 141; (with_reducible refine (F35.c t173 x9_3 t5 _ ?sideG A1.1).mono ?_); (case sideG => exact Z10 E0 E1); rintro e w30 ⟨rfl, hb⟩; obtain ⟨B0, B2⟩ := sqT2 hb B0 B2; replace HB := sqS (sqB2 HB E0 E1) hb; have := sqY2 B0))
     refine sqE g0 31 #[.int .i64 0, .int .i64 0] (Z108 B0) underlying31 ?_
     exact ⟨Z5, sqB2 HB E0 E1⟩
    rw [if_neg sqF] at H
    obtain ⟨rfl, rfl, rfl⟩ := sqO3 H
    go_wp2_with (first | ((with_reducible refine sqd 12 rfl ?_); refine sqx1 w (sqB1 HB E0) #[.int .i64 0, .int .i64 0] 31 B0 fun g1 w32 B2 E1 HB N0 N1 B0 => ?_; have := sqn2 N1 N0; have := sqY2 B2) | (go_at_call 70; (with_reducible refine (F3.c kj3 t173 x9_3 false _ A0.1).mono ?_); rintro e w35 ⟨rfl, hb⟩; replace B0 := sqH N0 B0 hb; replace B2 := sqa (blk_below (g := g1) (o := .cells #[.int .i64 t173, .int .i64 x9_3] 31 (0, 0)) (Z107 B2) hb); replace HB := sqS (sqB2 HB E0 E1) hb; have := sqY2 B0))
    refine sqE g0 31 #[.int .i64 0, .int .i64 0] (Z108 B0) underlying31 ?_
    exact ⟨Z5, sqB2 HB E0 E1⟩
   ·obtain ⟨qz_, rfl⟩ := isNone_some hq_t0
    have H1 : (some (0, 0, false)) = some (r1, r2, r3) := by rw [if_neg (show ¬ (some q1).isNone = true by simp)] at H; exact H
    clear H
    have H := H1
    clear H1
    try simp only [errP_none, errP_some]
    obtain ⟨rfl, rfl, rfl⟩ := sqO3 H
    go_wp2_with (first | ((with_reducible refine sqd 12 rfl ?_); refine sqx1 w (sqB1 HB E0) #[.int .i64 0, .int .i64 0] 31 B0 fun g1 w37 B2 E1 HB N0 N1 B0 => ?_; have := sqn2 N1 N0; have := sqY2 B2; have := sqY2 B0))
    refine sqE g0 31 #[.int .i64 0, .int .i64 0] (by refine sqPut (cs := #[.int .i64 0, .int .i64 x170001_3]) ?_ 1; refine sqPut (cs := #[.int .i64 x170000_3, .int .i64 x170001_3]) ?_ 0; refine sqFar ?_ N0; refine sqFar ?_ N0; exact sqK B0) underlying31 ?_
    exact ⟨Z5, sqB2 HB E0 E1⟩

def F85.f (a0_0 : Int) (a0_1 : Int) : Option (Int × Int) := if a0_1 > 0 then (some (wrap64 (-a0_0), a0_1)) else (some (a0_0, a0_1))
theorem F85.c (a0_0 : Int) (a0_1 : Int) (r1 : Int) (r2 : Int) (w : World) (H : F85.f a0_0 a0_1 = some (r1, r2)) :
  Calls prog 138 #[.agg #[.int .i64 a0_0, .int .i64 a0_1]] w fun e w' => e = .returned (.agg #[.int .i64 r1, .int .i64 r2]) ∧ Below w.heap.size w w' := by
 have hu31 := underlying31
 have HB := sqh w
 unfold F85.f at H
 obtain ⟨c2b0, H⟩ | ⟨c2b0, H⟩ := sqi3g H
 ·obtain ⟨rfl, rfl⟩ := sqO2 H
  go_enter func138, ntmps138
  go_wp2_with (first | ((with_reducible refine sqd 1 rfl ?_); refine sqx0 w (sqB HB) #[.int .i64 a0_0, .int .i64 a0_1] 31 fun g0 w3 B0 E0 HB => ?_) | ((with_reducible refine sqd 2 rfl ?_); refine sqx1 w (sqB1 HB E0) #[.int .i64 0, .int .i64 0] 31 B0 fun g1 w4 B2 E1 HB N0 N1 B0 => ?_; have := sqn2 N0 N1; have := sqY2 B0; have := sqY2 B2))
  refine sqEr g1 31 #[.int .i64 (wrap64 (-a0_0)), .int .i64 a0_1] (by refine sqPut (cs := #[.int .i64 (wrap64 (-a0_0)), .int .i64 0]) ?_ 1; refine sqPut (cs := #[.int .i64 0, .int .i64 0]) ?_ 0; refine sqFar ?_ N1; exact sqK B2) underlying31 ?_
  exact ⟨Z5, sqB2 HB E0 E1⟩
 obtain ⟨rfl, rfl⟩ := sqO2 H
 go_enter func138, ntmps138
 go_wp2_with (first | ((with_reducible refine sqd 1 rfl ?_); refine sqx0 w (sqB HB) #[.int .i64 a0_0, .int .i64 a0_1] 31 fun g0 w8 B0 E0 HB => ?_) | ((with_reducible refine sqd 2 rfl ?_); refine sqx1 w (sqB1 HB E0) #[.int .i64 0, .int .i64 0] 31 B0 fun g1 w9 B2 E1 HB N0 N1 B0 => ?_; have := sqn2 N0 N1; have := sqY2 B0; have := sqY2 B2))
 refine sqEr g1 31 #[.int .i64 a0_0, .int .i64 a0_1] (Z4 B2) underlying31 ?_
 exact ⟨Z5, sqB2 HB E0 E1⟩

def F55.j0 : Nat → Bool → Int → Int → Int → ByteArray → Option (Int × Int × Bool)
 | 0, _, _, _, _, _ => none
 | k + 1, x0, x1, x2, x3, x4 => if x0 = true then ((F85.f x1 x2).bind fun bt0 => (some (bt0.1, bt0.2, true))) else (if x3 = 3 then (if x4.toList = ([] : List UInt8) then ((F39.f k x1 x2 12).bind fun t0 => (some (0, 1, t0))) else (some (0, 0, false))) else (some (0, 0, false)))
def F55.f (k : Nat) (a0_0 : Int) (a0_1 : Int) (a1_0 : Int) (a1_1 : ByteArray) : Option (Int × Int × Bool) := if a1_0 = 0 then ((F73.f k a0_0 a0_1 a1_1).bind fun bt0 => (some (bt0.1, bt0.2.1, bt0.2.2))) else (if a1_0 = 1 then ((F27.f k a1_1).bind fun bt1 => (some (bt1.1, bt1.2.1, bt1.2.2))) else (if a1_0 = 2 then (F55.j0 k (a1_1.toList == ([] : List UInt8)) a0_0 a0_1 a1_0 a1_1) else (F55.j0 k false a0_0 a0_1 a1_0 a1_1)))
theorem F55.c (k : Nat) (a0_0 : Int) (a0_1 : Int) (a1_0 : Int) (a1_1 : ByteArray) (r1 : Int) (r2 : Int) (r3 : Bool) (w : World) (hG : Glob w) (H : F55.f k a0_0 a0_1 a1_0 a1_1 = some (r1, r2, r3)) :
  Calls prog 111 #[.agg #[.int .i64 a0_0, .int .i64 a0_1], .agg #[.int .i64 a1_0, .string a1_1]] w fun e w' => e = .returned (.tuple #[.agg #[.int .i64 r1, .int .i64 r2], .bool r3]) ∧ Below w.heap.size w w' := by
 have hu31 := underlying31
 have hu38 := underlying38
 have HB := sqh w
 unfold F55.f at H
 obtain ⟨c3b0, c3b1, H⟩ | ⟨c3b0, c3b1, c3, H⟩ := sqi4 H
 ·obtain ⟨⟨t0, t1, t2⟩, A4, H⟩ := sqD H
  try dsimp only at H
  obtain ⟨rfl, rfl, rfl⟩ := sqO3 H
  go_enter func111, ntmps111
  go_wp2_with (first | ((with_reducible refine sqd 2 rfl ?_); refine sqx0 w (sqB HB) #[.int .i64 a0_0, .int .i64 a0_1] 31 fun g0 w5 B0 E0 HB => ?_) | ((with_reducible refine sqd 3 rfl ?_); refine sqx1 w (sqB1 HB E0) #[.int .i64 a1_0, .string a1_1] 38 B0 fun g1 w6 B2 E1 HB N0 N1 B0 => ?_) | ((with_reducible refine sqd 4 rfl ?_); refine sqx w (sqB2 HB E0 E1) #[.int .i64 0, .int .i64 0] 31 fun g2 hg w7 B9 E2 HB hb => ?_; obtain ⟨N2, N3⟩ := sqM hg B0; replace B0 := sqT B0 hb; obtain ⟨N4, N5⟩ := sqM hg B2; replace B2 := sqT B2 hb; clear hb hg; have := sqn4 N1 N0 N4 N5; have := sqY2 B2; have := sqn2 N2 N3; have := sqY2 B0) | ((with_reducible refine sqc 25 rfl ?_); refine sqv (some 13) func25 (F73.c k a0_0 a0_1 a1_1 t0 t1 t2 _ A4.1) fun w0 hb => ?_; obtain ⟨B0, B2, B9⟩ := sqT3 hb B0 B2 B9; replace HB := sqS (sqB3 HB E0 E1 E2) hb; have := sqY2 B9))
  refine sqE g2 31 #[.int .i64 t0, .int .i64 t1] (by refine sqPut (cs := #[.int .i64 t0, .int .i64 0]) ?_ 1; refine sqPut (cs := #[.int .i64 0, .int .i64 0]) ?_ 0; exact sqK B9) underlying31 ?_
  exact ⟨Z5, sqB3 HB E0 E1 E2⟩
 obtain ⟨c1, c2, H⟩ | ⟨c1, c2, c0, H⟩ := sqi4 H
 ·obtain ⟨⟨t3, t4, t5⟩, A0, H⟩ := sqD H
  try dsimp only at H
  obtain ⟨rfl, rfl, rfl⟩ := sqO3 H
  go_enter func111, ntmps111
  go_wp2_with (first | ((with_reducible refine sqd 2 rfl ?_); refine sqx0 w (sqB HB) #[.int .i64 a0_0, .int .i64 a0_1] 31 fun g0 w1 B0 E0 HB => ?_) | ((with_reducible refine sqd 3 rfl ?_); refine sqx1 w (sqB1 HB E0) #[.int .i64 a1_0, .string a1_1] 38 B0 fun g1 w2 B2 E1 HB N0 N1 B0 => ?_) | ((with_reducible refine sqd 4 rfl ?_); refine sqx w (sqB2 HB E0 E1) #[.int .i64 0, .int .i64 0] 31 fun g2 hg w3 B9 E2 HB hb => ?_; obtain ⟨N2, N3⟩ := sqM hg B0; replace B0 := sqT B0 hb; obtain ⟨N4, N5⟩ := sqM hg B2; replace B2 := sqT B2 hb; clear hb hg; have := sqn4 N1 N0 N4 N5; have := sqY2 B2) | ((with_reducible refine sqc 126 rfl ?_); refine sqv (some 22) func126 (args := #[.string a1_1]) (F27.c k a1_1 t3 t4 t5 _ (Glob.below hG (sqB3 HB E0 E1 E2)) A0.1) fun w4 hb => ?_; obtain ⟨B0, B2, B9⟩ := sqT3 hb B0 B2 B9; replace HB := sqS (sqB3 HB E0 E1 E2) hb; have := sqn2 N3 N2; have := sqY2 B9))
  refine sqE g2 31 #[.int .i64 t3, .int .i64 t4] (by refine sqPut (cs := #[.int .i64 t3, .int .i64 0]) ?_ 1; refine sqPut (cs := #[.int .i64 0, .int .i64 0]) ?_ 0; exact sqK B9) underlying31 ?_
  exact ⟨Z5, sqB3 HB E0 E1 E2⟩
 have HC0 := sqa H
 clear H
 go_enter func111, ntmps111
 go_upto_region 5 with (first | ((with_reducible refine sqd 2 rfl ?_); refine sqx0 w (sqB HB) #[.int .i64 a0_0, .int .i64 a0_1] 31 fun g0 w8 B0 E0 HB => ?_) | ((with_reducible refine sqd 3 rfl ?_); refine sqx1 w (sqB1 HB E0) #[.int .i64 a1_0, .string a1_1] 38 B0 fun g1 w9 B2 E1 HB N0 N1 B0 => ?_) | ((with_reducible refine sqd 4 rfl ?_); refine sqx w (sqB2 HB E0 E1) #[.int .i64 0, .int .i64 0] 31 fun g2 hg w29 B9 E2 HB hb => ?_; obtain ⟨N2, N3⟩ := sqM hg B0; replace B0 := sqT B0 hb; obtain ⟨N4, N5⟩ := sqM hg B2; replace B2 := sqT B2 hb; clear hb hg; have := sqn4 N1 N0 N4 N5; have := sqY2 B2))
 (try simp only [Act.put, List.setIfInBounds_toArray, List.set_cons_zero, List.set_cons_succ])
 go_cut [25] (fun v0 wc => ∃ (kq : Nat) (x0 : Bool), v0 = .bool x0 ∧ Aside0 (F55.j0 kq x0 a0_0 a0_1 a1_0 a1_1 = some (r1, r2, r3)) ∧ Aside0 (kq ≤ k) ∧ Aside0 (wc.heap[g0]? = some (.cells #[.int .i64 a0_0, .int .i64 a0_1] 31 (0, 0))) ∧ Aside0 (wc.heap[g1]? = some (.cells #[.int .i64 a1_0, .string a1_1] 38 (0, 0))) ∧ Aside0 (wc.heap[g2]? = some (.cells #[.int .i64 0, .int .i64 0] 31 (0, 0))) ∧ Aside0 (Below w.heap.size w wc))
 case first =>
  have H := HC0.1
  clear HC0
  obtain ⟨c5, c6, H⟩ | ⟨c5, c6, c4, H⟩ := sqi4 H
  ·(first | rw [c5] | (simp only [i64_w, i32_w]; rw [c5]) | skip)
   have H' := sqa H
   clear H
   have := sqn4 N1 N0 N4 N5
   have := sqY2 B2
   go_wp2
   go_meet
   case rel => exact ⟨_, ((a1_1.toList == ([] : List UInt8))), Z1, H', ⟨Z11⟩, ⟨sqK B0⟩, ⟨sqK B2⟩, ⟨sqK B9⟩, ⟨sqB3 HB E0 E1 E2⟩⟩
  (first | rw [c5] | (simp only [i64_w, i32_w]; rw [c5]) | skip)
  have H' := sqa H
  clear H
  have := sqn4 N1 N0 N4 N5
  have := sqY2 B2
  go_wp2
  go_meet
  case rel => exact ⟨_, (false), Z1, H', ⟨Z11⟩, ⟨sqK B0⟩, ⟨sqK B2⟩, ⟨sqK B9⟩, ⟨sqB3 HB E0 E1 E2⟩⟩
 case rest =>
  clear HC0
  obtain ⟨kq, x0, rfl, HA, HJ0, B0, B2, B9, HB⟩ := hcut
  cases kq with
  | zero => exact absurd HA.out (by simp [F55.j0])
  | succ kj0 =>
   have H := HA.out
   clear HA
   simp only [F55.j0] at H
   obtain rfl | rfl := sqt x0
   ·rw [if_pos rfl] at H
    obtain ⟨⟨t6, t7⟩, A1, H⟩ := sqD H
    try dsimp only at H
    obtain ⟨rfl, rfl, rfl⟩ := sqO3 H
    have := sqn4 N0 N1 N2 N3
    have := sqY2 B0
    go_wp2_with (first | ((with_reducible refine sqc 138 rfl ?_); refine sqv (some 35) func138 (F85.c a0_0 a0_1 t6 t7 _ A1.1) fun w45 hb => ?_; obtain ⟨B0, B2, B9⟩ := sqT3 hb B0 B2 B9; replace HB := sqS (sqB3 HB E0 E1 E2) hb; have := sqn2 N5 N4; have := sqY2 B9))
    refine sqE g2 31 #[.int .i64 t6, .int .i64 t7] (by refine sqPut (cs := #[.int .i64 t6, .int .i64 0]) ?_ 1; refine sqPut (cs := #[.int .i64 0, .int .i64 0]) ?_ 0; exact sqK B9) underlying31 ?_
    exact ⟨Z5, sqB3 HB E0 E1 E2⟩
   rw [if_neg sqF] at H
   obtain ⟨c9, c10, H⟩ | ⟨c9, c10, c8, H⟩ := sqi4 H
   ·by_cases c49 : a1_1.toList = ([] : List UInt8)
    ·rw [if_pos c49] at H
     have c12 := sqe1 c49
     try have c13 : a1_1.toList.isEmpty = true := by (have h_ := c12; (repeat rw [sqy] at h_); exact h_)
     have c14 := sqn0 c49
     clear c49
     obtain ⟨t8, A2, H⟩ := sqD H
     obtain ⟨rfl, rfl, rfl⟩ := sqO3 H
     have := sqn4 N1 N0 N4 N5
     have := sqY2 B2
     have := sqn2 N2 N3
     have := sqY2 B0
     go_wp2_with (first | ((with_reducible refine sqc 104 rfl ?_); refine sqv (some 47) func104 (F39.c kj0 a0_0 a0_1 12 t8 _ A2.1) fun w56 hb => ?_; obtain ⟨B0, B2, B9⟩ := sqT3 hb B0 B2 B9; replace HB := sqS (sqB3 HB E0 E1 E2) hb; have := sqY2 B9))
     refine sqE g2 31 #[.int .i64 0, .int .i64 1] (Z12 B9) underlying31 ?_
     exact ⟨Z5, sqB3 HB E0 E1 E2⟩
    rw [if_neg c49] at H
    have c12 := sqe0 c49
    try have c13 : a1_1.toList.isEmpty = false := by (have h_ := c12; (repeat rw [sqy] at h_); exact h_)
    have c14 := sqn1 c49
    obtain ⟨rfl, rfl, rfl⟩ := sqO3 H
    have := sqn4 N1 N0 N4 N5
    have := sqY2 B2
    have := sqn2 N3 N2
    have := sqY2 B9
    go_wp2
    refine sqE g2 31 #[.int .i64 0, .int .i64 0] (Z12 B9) underlying31 ?_
    exact ⟨Z5, sqB3 HB E0 E1 E2⟩
   obtain ⟨rfl, rfl, rfl⟩ := sqO3 H
   have := sqn4 N1 N0 N4 N5
   have := sqY2 B2
   have := sqn2 N3 N2
   have := sqY2 B9
   go_wp2
   refine sqE g2 31 #[.int .i64 0, .int .i64 0] (Z12 B9) underlying31 ?_
   exact ⟨Z5, sqB3 HB E0 E1 E2⟩

end Go.Proofs.YtofmlbgfcohhoaaGreatDoor.PFnDeskSay
