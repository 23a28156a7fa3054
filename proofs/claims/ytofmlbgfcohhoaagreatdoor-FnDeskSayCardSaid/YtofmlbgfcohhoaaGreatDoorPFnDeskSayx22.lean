import Derived.Test.YtofmlbgfcohhoaaGreatDoorPFnDeskSayx18
import Derived.Test.YtofmlbgfcohhoaaGreatDoorPFnDeskSayx20
import Derived.Test.YtofmlbgfcohhoaaGreatDoorPFnDeskSayx21
set_option maxHeartbeats 8000000
set_option maxRecDepth 100000
namespace Go.Proofs.YtofmlbgfcohhoaaGreatDoor.PFnDeskSay
open Go.RowKit Go.Proofs.YtofmlbgfcohhoaaGreatDoorW.PrintWords Go.Proofs.YtofmlbgfcohhoaaGreatDoorW.PrintLast Go.Proofs.YtofmlbgfcohhoaaGreatDoorW.PrintMore Go.Proofs.YtofmlbgfcohhoaaGreatDoor.Lib Go.Proofs.Tryz
attribute [local go_sem] max2_int min2_int max_two min_two max_three min_three max_four min_four   -- for this text's walks alone
set_option linter.unusedVariables false
set_option linter.unusedSimpArgs false

mutual
def F13.j0 : Nat → List ByteArray → Bool → Int → Int → List (S31) → Int → Int → Option (Int × Int × (List (S31)) × ByteArray)
 | 0, _, _, _, _, _, _, _ => none
 | k + 1, x0, x1, x2, x3, x4, x5, x6 => if x1 = true then (some (x2, x3, x4, (⟨#[119, 104, 97, 116]⟩ : ByteArray))) else (if 1 < (x0.length : Int) then ((F5.f k (rdOf ByteArray.empty x0 1)).bind fun bt0 => (if bt0.2 = true then (F13.j1 k bt0.1 (decide (bt0.1 < 0)) x2 x3 x4 x5 x6) else (F13.j1 k bt0.1 true x2 x3 x4 x5 x6))) else (none))
def F13.j1 : Nat → Int → Bool → Int → Int → List (S31) → Int → Int → Option (Int × Int × (List (S31)) × ByteArray)
 | 0, _, _, _, _, _, _, _ => none
 | k + 1, x0, x1, x2, x3, x4, x5, x6 => if x1 = true then (some (x2, x3, x4, (⟨#[119, 104, 97, 116]⟩ : ByteArray))) else ((F2.f x0 1 12).bind fun t0 => (if t0 = true then ((F81.f k x5 x6 x0).bind fun t1 => ((F4.f k t1).bind fun t2 => (some (x2, x3, x4, t2)))) else (some (x2, x3, x4, (⟨#[110, 111, 110, 101]⟩ : ByteArray)))))
end
def F13.f (k : Nat) (a0_0 : Int) (a0_1 : Int) (l0_2 : List (S31)) (a1 : ByteArray) : Option (Int × Int × (List (S31)) × ByteArray) := (F15.f k a0_0 a0_1 l0_2).bind fun t0 => (if t0 = true then ((F40.f a0_0 a0_1 l0_2).bind fun bt0 => ((F7.f k a1).bind fun bt1 => (if bt1.2.2 = true then ((F16.f k a0_0 a0_1 l0_2 bt1.1 bt1.2.1).bind fun bt2 => (if bt2.2.2.2 = true then (some (bt2.1, bt2.2.1, bt2.2.2.1, (⟨#[111, 107]⟩ : ByteArray))) else (some (bt2.1, bt2.2.1, bt2.2.2.1, (⟨#[110, 111, 116]⟩ : ByteArray))))) else (if a1.toList = ([116, 101, 120, 116] : List UInt8) then ((F19.f k a0_0 a0_1).bind fun t1 => (some (bt0.1, bt0.2.1, bt0.2.2, t1))) else (if a1.toList = ([109, 111, 118, 101, 115] : List UInt8) then ((F18.f k a0_0 a0_1).bind fun bt3 => (if bt3.2 = true then (if 1 + bt3.1.size ≤ 9223372036854775807 then (some (bt0.1, bt0.2.1, bt0.2.2, (⟨#[58]⟩ : ByteArray) ++ bt3.1)) else (none)) else (some (bt0.1, bt0.2.1, bt0.2.2, (⟨#[110, 111, 110, 101]⟩ : ByteArray))))) else (if a1.toList = ([116, 101, 114, 109, 115] : List UInt8) then ((F79.f k a0_0 a0_1).bind fun bt4 => ((F33.f k bt4.1).bind fun t2 => (some (bt0.1, bt0.2.1, bt0.2.2, t2)))) else (if a1.toList = ([99, 114, 111, 115, 115, 105, 110, 103, 115] : List UInt8) then ((F46.f k a0_0 a0_1).bind fun t3 => ((F4.f k t3).bind fun t4 => (some (bt0.1, bt0.2.1, bt0.2.2, t4)))) else (if a1.toList = ([101, 110, 100, 115] : List UInt8) then ((F77.f k a0_0 a0_1).bind fun t5 => ((F33.f k t5).bind fun t6 => (some (bt0.1, bt0.2.1, bt0.2.2, t6)))) else (if a1.toList = ([114, 105, 110, 103, 115] : List UInt8) then ((F83.f k a0_0 a0_1).bind fun t7 => ((F4.f k t7).bind fun t8 => (some (bt0.1, bt0.2.1, bt0.2.2, t8)))) else (if a1.toList = ([108, 105, 110, 107] : List UInt8) then ((F51.f k a0_0 a0_1).bind fun bt5 => (if bt5.2.2 = true then ((F50.f k bt5.1 bt5.2.1).bind fun bt6 => ((F4.f k bt6.1).bind fun t9 => (if t9.size + 1 ≤ 9223372036854775807 then ((F4.f k bt6.2.1).bind fun t10 => (if (t9 ++ (⟨#[58]⟩ : ByteArray)).size + t10.size ≤ 9223372036854775807 then (some (bt0.1, bt0.2.1, bt0.2.2, (t9 ++ (⟨#[58]⟩ : ByteArray)) ++ t10)) else (none))) else (none)))) else (some (bt0.1, bt0.2.1, bt0.2.2, (⟨#[110, 111, 110, 101]⟩ : ByteArray))))) else ((F21.f k a1 32).bind fun t11 => (if (t11.length : Int) = 2 then (if 0 < (t11.length : Int) then (F13.j0 k t11 ((rdOf ByteArray.empty t11 0).toList != ([99, 111, 108, 111, 117, 114, 115] : List UInt8)) bt0.1 bt0.2.1 bt0.2.2 a0_0 a0_1) else (none)) else (F13.j0 k t11 true bt0.1 bt0.2.1 bt0.2.2 a0_0 a0_1))))))))))))) else (some (0, 0, ([] : List (S31)), (⟨#[]⟩ : ByteArray))))
def F13.T33 : Bool × List (List Nat × List Nat) := (true, [([], []), ([], []), ([1], [1]), ([2], [2]), ([3], [3]), ([], []), ([5], [5]), ([6, 3], [6]), ([4, 7], [4, 7]), ([0, 7, 0], [0]), ([8, 9, 0, 1, 2, 3, 4, 5, 6, 7, 8, 9], [8])])
def F13.B33 : List Nat := [0, 0, 2, 6, 14, 0, 32, 110, 254, 239, 1023]
theorem F13.tab33 : rtab .any (opsOf f43 33) = F13.T33 := by kernel_rfl
theorem F13.bits33 : waitsOk F13.T33.2 F13.B33 = true := by kernel_rfl
theorem F13.c (k : Nat) (a0_0 : Int) (a0_1 : Int) (A0_2 : Option Addr) (c0_2 : Nat) (l0_2 : List (S31)) (a1 : ByteArray) (r1 : Int) (r2 : Int) (r3 : List (S31)) (r4 : ByteArray) (w : World) (hr0_2 : Kd.C k31 w A0_2 l0_2.length l0_2) (hc0_2 : l0_2.length ≤ c0_2) (H : F13.f k a0_0 a0_1 l0_2 a1 = some (r1, r2, r3, r4)) :
  Calls prog 43 #[.agg #[.int .i64 a0_0, .int .i64 a0_1, .slice A0_2 l0_2.length c0_2], .string a1] w fun e w' => ∃ v2_ : Value, e = .returned (.tuple #[.agg #[.int .i64 r1, .int .i64 r2, v2_], .string r4]) ∧ Kd.Q k31 31 w' w.heap.size (fun _ => True) v2_ r3 ∧ Below w.heap.size w w' := by
 have hu34 := underlying34
 have hu38 := underlying38
 have hu31 := underlying31
 have hu116 := underlying116
 have HR0_2 := sqa hr0_2
 have HC0_2 := sqa hc0_2
 clear hr0_2 hc0_2
 have HB := sqh w
 unfold F13.f at H
 obtain ⟨t0, A3, H⟩ := sqD H
 go_enter func43, ntmps43
 go_upto_if 25 with (first | ((with_reducible refine sqd 2 rfl ?_); refine sqx0 w (sqB HB) #[.int .i64 a0_0, .int .i64 a0_1, .slice A0_2 l0_2.length c0_2] 34 fun gb618 w0 B0 E0 HB => ?_) | ((with_reducible refine sqd 4 rfl ?_); refine sqx1 w (sqB1 HB E0) #[.int .i64 0, .int .i64 0, .slice none 0 0] 34 B0 fun gb619 w2 B2 E1 HB N0 N1 B0 => ?_; have := sqn2 N0 N1; have := sqY3 B0) | ((with_reducible refine sqc 30 rfl ?_); refine sqv (some 24) func30 (args := #[.agg #[.int .i64 a0_0, .int .i64 a0_1, .slice A0_2 l0_2.length c0_2]]) (F15.c k a0_0 a0_1 _ _ l0_2 t0 _ Z35 Z36 A3.1) fun w3 hb => ?_; obtain ⟨B0, B2⟩ := sqT2 hb B0 B2; replace HB := sqS (sqB2 HB E0 E1) hb; have := sqY3 B0; have := sqY3 B2))
 obtain rfl | rfl := sqt t0
 ·rw [if_pos rfl] at H
  obtain ⟨⟨t621, t622, t1⟩, A5, H⟩ := sqD H
  try dsimp only at H
  obtain ⟨⟨t627, t628, t2⟩, A6, H⟩ := sqD H
  try dsimp only at H
  go_upto_if 34 with (first | ((with_reducible refine sqc 56 rfl ?_); refine sqvo (some 28) func56 (args := #[.agg #[.int .i64 a0_0, .int .i64 a0_1, .slice A0_2 l0_2.length c0_2]]) (F40.c a0_0 a0_1 _ _ l0_2 t621 t622 t1 _ Z35 Z36 A5.1) fun v0 w4 ho0 hb => ?_; have O0 := sqL ho0 (sqB2 HB E0 E1); obtain ⟨B0, B2⟩ := sqT2 hb B0 B2; replace HB := sqS (sqB2 HB E0 E1) hb; (try clear ho0)) | ((with_reducible refine sqd 6 rfl ?_); refine sqx w (sqB2 HB E0 E1) #[.int .i64 0, .int .i64 0, .slice none 0 0] 34 fun g0 hg w5 B9 E2 HB hb => ?_; replace O0 := sqU O0 hb; obtain ⟨N2, N3⟩ := sqM hg B0; replace B0 := sqT B0 hb; obtain ⟨N4, N5⟩ := sqM hg B2; replace B2 := sqT B2 hb; clear hb hg; obtain ⟨Ao0, co0, eo0⟩ := Kd.R_slice O0.1; subst eo0; have := sqn4 N3 N2 N5 N4; have := sqY3 B9) | ((with_reducible refine sqc 86 rfl ?_); refine sqv (some 31) func86 (F7.c k a1 t627 t628 t2 _ A6.1) fun w6 hb => ?_; replace O0 := sqa (Kd.R_below (by (with_reducible repeat (first | apply Kd.R_alloc | apply Kd.R_drewN | apply Kd.R_drew)); exact (Kd.R_mono (sqr3 O0.1 B9.1) (fun _ h_ => h_.1))) hb); replace B0 := sqH N2 B0 hb; replace B2 := sqH N4 B2 hb; replace B9 := sqa (blk_below (g := g0) (o := .cells #[.int .i64 t621, .int .i64 t622, .slice Ao0 t1.length co0] 34 (0, 0)) (Z59 B9) hb); replace HB := sqS (sqB3 HB E0 E1 E2) hb) | ((with_reducible refine sqd 7 rfl ?_); refine sqx w (sqB3 HB E0 E1 E2) #[.int .i64 0, .string (⟨#[]⟩ : ByteArray)] 38 fun gb630 hg w7 B10 E3 HB hb => ?_; replace O0 := sqU O0 hb; obtain ⟨N6, N7⟩ := sqM hg B0; replace B0 := sqT B0 hb; obtain ⟨N8, N9⟩ := sqM hg B2; replace B2 := sqT B2 hb; obtain ⟨N10, N11⟩ := sqM hg B9; replace B9 := sqT B9 hb; clear hb hg; have := sqn6 N7 N6 N9 N8 N11 N10; have := sqY2 B10; have := sqY3 B0))
  obtain rfl | rfl := sqt t2
  ·rw [if_pos rfl] at H
   obtain ⟨⟨t631, t632, t3, t4⟩, A8, H⟩ := sqD H
   try dsimp only at H
   go_upto_if 42 with (first | ((with_reducible refine sqc 14 rfl ?_); refine sqvo (some 38) func14 (args := #[.agg #[.int .i64 a0_0, .int .i64 a0_1, .slice A0_2 l0_2.length c0_2], .agg #[.int .i64 t627, .string t628]]) (F16.c k a0_0 a0_1 _ _ l0_2 t627 t628 t631 t632 t3 t4 _ (Kd.C_below HR0_2.1 (sqB4 HB E0 E1 E2 E3)) Z36 A8.1) fun v1 w8 ho0 hb => ?_; have O1 := sqa (Kd.Q_lower (Kd.Q_new' ho0 (Kd.R_lt (Z60 O0 B10))) (below_size (sqB4 HB E0 E1 E2 E3))); replace O0 := sqa (Kd.R_elder' (Z60 O0 B10) (Kd.Q_base ho0) hb); replace B0 := sqH N6 B0 hb; replace B2 := sqH N8 B2 hb; replace B9 := sqH N10 B9 hb; replace B10 := sqa (blk_below (g := gb630) (o := .cells #[.int .i64 t627, .string t628] 38 (0, 0)) (Z61 B10) hb); replace HB := sqS (sqB4 HB E0 E1 E2 E3) hb; (try clear ho0)) | ((with_reducible refine sqd 9 rfl ?_); refine sqx w (sqB4 HB E0 E1 E2 E3) #[.int .i64 0, .int .i64 0, .slice none 0 0] 34 fun g1 hg w9 B13 E4 HB hb => ?_; replace O0 := sqU O0 hb; replace O1 := sqa (Kd.Q_below (Z40 O1) hb); obtain ⟨N12, N13⟩ := sqM hg B0; replace B0 := sqT B0 hb; obtain ⟨N14, N15⟩ := sqM hg B2; replace B2 := sqT B2 hb; obtain ⟨N16, N17⟩ := sqM hg B9; replace B9 := sqT B9 hb; obtain ⟨N18, N19⟩ := sqM hg B10; replace B10 := sqT B10 hb; clear hb hg; obtain ⟨Ao1, co1, eo1, _⟩ := Kd.Q_slice O1.1; subst eo1; have := sqn6 N13 N12 N15 N14 N17 N16; have := sqn2 N19 N18; have := sqY3 B13; have := sqY3 B2))
   obtain rfl | rfl := sqt t4
   ·rw [if_pos rfl] at H
    obtain ⟨rfl, rfl, rfl, rfl⟩ := sqO4 H
    go_wp2_with fail
    refine sqE gb619 34 #[.int .i64 t631, .int .i64 t632, .slice Ao1 t3.length co1] (Z62 N14 B2) underlying34 ?_
    exact ⟨_, Z5, by (with_reducible repeat (first | apply Kd.Q_alloc | apply Kd.Q_drewN | apply Kd.Q_drew)); exact Kd.Q_mono (Kd.Q_far (p := ⟨gb619, 2, none⟩) (Kd.Q_far (p := ⟨gb619, 1, none⟩) (Kd.Q_far (p := ⟨gb619, 0, none⟩) (Kd.Q_far (p := ⟨g1, 2, none⟩) (Kd.Q_far (p := ⟨g1, 1, none⟩) (Kd.Q_far (p := ⟨g1, 0, none⟩) (Kd.Q_types (Kd.Q_types O1.1 B13.1 (by decide)) B2.1 (by decide)) (fun _ hk => hk.1.2) (.int .i64 t631)) (fun _ hk => hk.1.2) (.int .i64 t632)) (fun _ hk => hk.1.2) (.slice Ao1 t3.length co1)) (fun _ hk => hk.2) (.int .i64 t631)) (fun _ hk => hk.2) (.int .i64 t632)) (fun _ hk => hk.2) (.slice Ao1 t3.length co1)) (fun _ hk => trivial), Z44 E0 E1 E2 E3 E4⟩
   rw [if_neg sqF] at H
   obtain ⟨rfl, rfl, rfl, rfl⟩ := sqO4 H
   go_wp2_with fail
   refine sqE gb619 34 #[.int .i64 t631, .int .i64 t632, .slice Ao1 t3.length co1] (Z62 N14 B2) underlying34 ?_
   exact ⟨_, Z5, by (with_reducible repeat (first | apply Kd.Q_alloc | apply Kd.Q_drewN | apply Kd.Q_drew)); exact Kd.Q_mono (Kd.Q_far (p := ⟨gb619, 2, none⟩) (Kd.Q_far (p := ⟨gb619, 1, none⟩) (Kd.Q_far (p := ⟨gb619, 0, none⟩) (Kd.Q_far (p := ⟨g1, 2, none⟩) (Kd.Q_far (p := ⟨g1, 1, none⟩) (Kd.Q_far (p := ⟨g1, 0, none⟩) (Kd.Q_types (Kd.Q_types O1.1 B13.1 (by decide)) B2.1 (by decide)) (fun _ hk => hk.1.2) (.int .i64 t631)) (fun _ hk => hk.1.2) (.int .i64 t632)) (fun _ hk => hk.1.2) (.slice Ao1 t3.length co1)) (fun _ hk => hk.2) (.int .i64 t631)) (fun _ hk => hk.2) (.int .i64 t632)) (fun _ hk => hk.2) (.slice Ao1 t3.length co1)) (fun _ hk => trivial), Z44 E0 E1 E2 E3 E4⟩
  rw [if_neg sqF] at H
  go_upto_if 48 with (first | ((with_reducible refine sqd 11 rfl ?_); refine sqx w (sqB4 HB E0 E1 E2 E3) #[.int .i64 0, .int .i64 0] 31 fun gb638 hg w87 B14 E5 HB hb => ?_; replace O0 := sqa (Kd.R_below (Kd.R_elderB (Z60 O0 B10) gb638 (Nat.le_of_eq hg.symm)) hb); have N20 := sqa ((Z165 N6 B0 : gb618 ≠ gb638)); have N21 := sqa ((Z166 N6 B0 : gb638 ≠ gb618)); replace B0 := sqH N6 B0 hb; have N22 := sqa ((Z167 N8 B2 : gb619 ≠ gb638)); have N23 := sqa ((Z168 N8 B2 : gb638 ≠ gb619)); replace B2 := sqH N8 B2 hb; have N24 := sqa ((by rw [hg]; exact Nat.ne_of_lt (blk_lt (g := g0) (o := .cells #[.int .i64 t621, .int .i64 t622, .slice Ao0 t1.length co0] 34 (0, 0)) (Z9 N10 B9)) : g0 ≠ gb638)); have N25 := sqa ((by rw [hg]; exact Nat.ne_of_gt (blk_lt (g := g0) (o := .cells #[.int .i64 t621, .int .i64 t622, .slice Ao0 t1.length co0] 34 (0, 0)) (Z9 N10 B9)) : gb638 ≠ g0)); replace B9 := sqH N10 B9 hb; have N26 := sqa ((Z169 B10 : gb630 ≠ gb638)); have N27 := sqa ((Z170 B10 : gb638 ≠ gb630)); replace B10 := sqa (blk_below (g := gb630) (o := .cells #[.int .i64 t627, .string t628] 38 (0, 0)) (Z61 B10) hb); clear hb hg; have := sqn6 N21 N20 N23 N22 N25 N24; have := sqn2 N27 N26; have := sqY2 B14))
  obtain ⟨c0, H⟩ | ⟨c0, H⟩ := sqi2 H
  ·have c1 := sqe1 c0
   have c2 := sqn0 c0
   (first | rw [c1] | rw [c2] | simp only [i64_w, i32_w, c1, c2] | skip)
   clear c0
   obtain ⟨t5, A0, H⟩ := sqD H
   obtain ⟨rfl, rfl, rfl, rfl⟩ := sqO4 H
   try go_wp2_with fail
   obtain ⟨w93, hw_⟩ : ∃ w_, (w87.setCell ⟨gb638, 0, none⟩ (.int .i64 a0_0)).setCell ⟨gb638, 1, none⟩ (.int .i64 a0_1) = w_ := ⟨_, rfl⟩
   replace O0 : Aside0 (Kd.R k31 31 w93 w.heap.size (fun k_ => k_ ≠ gb638) (.slice Ao0 t1.length co0) t1) := by rw [← hw_]; exact ⟨Z63 O0⟩
   replace B0 := sqJ hw_ N20 B0
   replace B2 := sqJ hw_ N22 B2
   replace B9 := sqJ hw_ N24 B9
   replace B10 := sqJ hw_ N26 B10
   replace B14 : Aside0 (w93.heap[gb638]? = some (.cells #[.int .i64 a0_0, .int .i64 a0_1] 31 (0, 0))) := by rw [← hw_]; exact ⟨Z4 B14⟩
   replace HB : Aside0 (Below w.heap.size w w93) := by rw [← hw_]; exact ⟨Z44 E0 E1 E2 E3 E5⟩
   rw [hw_]; clear hw_
   replace O0 := sqa (Kd.R_drew O0.1)
   replace B0 := sqa (blk_drew B0.1)
   replace B2 := sqa (blk_drew B2.1)
   replace B9 := sqa (blk_drew B9.1)
   replace B10 := sqa (blk_drew B10.1)
   replace B14 := sqa (blk_drew B14.1)
   replace HB := sqa (below_drew1 HB.1)
   refine start_ (n := 5) (S := fun w' => w'.cell? ⟨g0, 0, none⟩ = some (.int .i64 t621) ∧ w'.cell? ⟨g0, 1, none⟩ = some (.int .i64 t622) ∧ w'.cell? ⟨g0, 2, none⟩ = some (.slice Ao0 t1.length co0) ∧ w'.cell? ⟨gb638, 0, none⟩ = some (.int .i64 a0_0) ∧ w'.cell? ⟨gb638, 1, none⟩ = some (.int .i64 a0_1)) (ds := []) #[false, false, false, false, false] (by kernel_rfl) rfl rfl (sqk2 B9 B14) (fun hHeld => ?_)
   generalize w93.drew = w94 at O0 B0 B2 B9 B10 B14 HB hHeld ⊢
   refine sqQk 0 (some 50) hHeld (h := ?_)
   refine sqQk 1 (some 51) hHeld (h := ?_)
   refine sq1k 2 (some 52) (h := fun K hK => ?_)
   refine sqg func89 #[.agg #[.int .i64 a0_0, .int .i64 a0_1]] ?_
   with_reducible refine (F19.c k a0_0 a0_1 t5 _ A0.1).mono ?_
   rintro e w95 ⟨rfl, hb⟩
   refine ⟨_, rfl, ?_⟩
   replace O0 := sqU O0 hb
   replace B0 := sqT B0 hb
   replace B2 := sqT B2 hb
   replace B9 := sqT B9 hb
   replace B10 := sqT B10 hb
   replace B14 := sqT B14 hb
   replace HB := sqa (below_step (Z44 E0 E1 E2 E3 E5) hb)
   refine hK.out _ _ (sqk2 B9 B14) (fun hHeld => ?_)
   clear hK K
   refine sqN (some 52) ?_
   refine sq1k 3 none (h := fun K hK => ?_)
   have := sqY3 B2
   have := sqn6 N0 N5 N9 N23 N1 N4
   have := sqn2 N8 N22
   refine skip_ (w1 := ?_) (by rfl) rfl ?_ ?_
   rotate_left
   ·go_simp
    rfl
   refine hK.out _ _ (sql2 N5 N23 hHeld) (fun hHeld => ?_)
   clear hK K
   refine sqPk 4 (some 5) (h := ?_)
   refine done_ (by kernel_rfl) ?_
   try go_wp2
   refine sqE gb619 34 #[.int .i64 t621, .int .i64 t622, .slice Ao0 t1.length co0] (Z59 B2) underlying34 ?_
   exact ⟨_, Z5, Kd.Q_of_R (by (with_reducible repeat (first | apply Kd.R_alloc | apply Kd.R_drewN | apply Kd.R_drew)); exact Kd.R_mono (sqr3 O0.1 B2.1) (fun _ hk => trivial)), Z44 E0 E1 E2 E3 E5⟩
  have c1 := sqe0 c0
  have c2 := sqn1 c0
  (first | rw [c1] | rw [c2] | simp only [i64_w, i32_w, c1, c2] | skip)
  go_upto_if 53 with fail
  obtain ⟨c3, H⟩ | ⟨c3, H⟩ := sqi2 H
  ·have c5 := sqe1 c3
   have c6 := sqn0 c3
   (first | rw [c5] | rw [c6] | simp only [i64_w, i32_w, c5, c6] | skip)
   clear c3
   obtain ⟨⟨t6, t7⟩, A1, H⟩ := sqD H
   try dsimp only at H
   go_upto_if 61 with (first | ((with_reducible refine sqc 90 rfl ?_); refine sqv (some 57) func90 (F18.c k a0_0 a0_1 t6 t7 _ A1.1) fun w19 hb => ?_; replace O0 := sqa (Kd.R_below (Z64 O0) hb); replace B0 := sqH N20 B0 hb; replace B2 := sqH N22 B2 hb; replace B9 := sqH N24 B9 hb; replace B10 := sqH N26 B10 hb; replace B14 := sqa (blk_below (g := gb638) (o := .cells #[.int .i64 a0_0, .int .i64 a0_1] 31 (0, 0)) (Z4 B14) hb); replace HB := sqa (below_step (Z44 E0 E1 E2 E3 E5) hb); have := sqY3 B9; have := sqY3 B2))
   obtain rfl | rfl := sqt t7
   ·rw [if_pos rfl] at H
    obtain ⟨c10, c11, c12, H⟩ := sqJ5 H
    try have c13 : (9223372036854775807 < 1 + t6.size) = False := eq_false (Nat.not_lt.2 c10)
    obtain ⟨rfl, rfl, rfl, rfl⟩ := sqO4 H
    go_wp2_with fail
    refine sqE gb619 34 #[.int .i64 t621, .int .i64 t622, .slice Ao0 t1.length co0] (Z59 B2) underlying34 ?_
    exact ⟨_, Z5, Kd.Q_of_R (by (with_reducible repeat (first | apply Kd.R_alloc | apply Kd.R_drewN | apply Kd.R_drew)); exact Kd.R_mono (sqr3 O0.1 B2.1) (fun _ hk => trivial)), Z44 E0 E1 E2 E3 E5⟩
   rw [if_neg sqF] at H
   obtain ⟨rfl, rfl, rfl, rfl⟩ := sqO4 H
   go_wp2_with fail
   refine sqE gb619 34 #[.int .i64 t621, .int .i64 t622, .slice Ao0 t1.length co0] (Z59 B2) underlying34 ?_
   exact ⟨_, Z5, Kd.Q_of_R (by (with_reducible repeat (first | apply Kd.R_alloc | apply Kd.R_drewN | apply Kd.R_drew)); exact Kd.R_mono (sqr3 O0.1 B2.1) (fun _ hk => trivial)), Z44 E0 E1 E2 E3 E5⟩
  have c5 := sqe0 c3
  have c6 := sqn1 c3
  (first | rw [c5] | rw [c6] | simp only [i64_w, i32_w, c5, c6] | skip)
  go_upto_if 66 with fail
  obtain ⟨c14, H⟩ | ⟨c14, H⟩ := sqi2 H
  ·have c15 := sqe1 c14
   have c16 := sqn0 c14
   (first | rw [c15] | rw [c16] | simp only [i64_w, i32_w, c15, c16] | skip)
   clear c14
   obtain ⟨⟨t8, t9⟩, A2, H⟩ := sqD H
   try dsimp only at H
   obtain ⟨t10, A4, H⟩ := sqD H
   obtain ⟨rfl, rfl, rfl, rfl⟩ := sqO4 H
   try go_wp2_with (first | ((with_reducible refine sqc 91 rfl ?_); refine sqvo (some 70) func91 (F79.c k a0_0 a0_1 t8 t9 _ A2.1) fun v2 w20 ho0 hb => ?_; replace O0 := sqa (Kd.R_below (Z64 O0) hb); have O2 := sqa (Kd.R_lower ho0 (below_size (Z44 E0 E1 E2 E3 E5))); replace B0 := sqH N20 B0 hb; replace B2 := sqH N22 B2 hb; replace B9 := sqH N24 B9 hb; replace B10 := sqH N26 B10 hb; replace B14 := sqa (blk_below (g := gb638) (o := .cells #[.int .i64 a0_0, .int .i64 a0_1] 31 (0, 0)) (Z4 B14) hb); replace HB := sqa (below_step (Z44 E0 E1 E2 E3 E5) hb); (try clear ho0)))
   replace O0 := sqa (Kd.R_drew O0.1)
   replace O2 := sqa (Kd.R_drew O2.1)
   replace B0 := sqa (blk_drew B0.1)
   replace B2 := sqa (blk_drew B2.1)
   replace B9 := sqa (blk_drew B9.1)
   replace B10 := sqa (blk_drew B10.1)
   replace B14 := sqa (blk_drew B14.1)
   replace HB := sqa (below_drew1 HB.1)
   obtain ⟨Ao2, co2, eo2⟩ := Kd.R_slice O2.1
   (first | subst eo2 | (injection eo2 with f1_ f2_ f3_; have f4_ := f1_.symm; have f5_ := f3_.symm; clear f1_ f2_ f3_; subst f4_; subst f5_))
   refine start_ (n := 5) (S := fun w' => w'.cell? ⟨g0, 0, none⟩ = some (.int .i64 t621) ∧ w'.cell? ⟨g0, 1, none⟩ = some (.int .i64 t622) ∧ w'.cell? ⟨g0, 2, none⟩ = some (.slice Ao0 t1.length co0)) (ds := []) #[false, false, false, false, false] (by kernel_rfl) rfl rfl (sqk1 B9) (fun hHeld => ?_)
   generalize w20.drew = w21 at O0 O2 B0 B2 B9 B10 B14 HB hHeld ⊢
   refine sqPk 1 (some 74) (h := ?_)
   refine sqQk 0 (some 73) hHeld (h := ?_)
   refine sq1k 2 (some 75) (h := fun K hK => ?_)
   refine sqg func92 #[.slice Ao2 t8.length co2] ?_
   with_reducible refine (F33.c k _ _ t8 t10 _ ?side1 ?side2 A4.1).mono ?_
   (case side1 => exact Z7 O2)
   (case side2 => exact Z8 O2)
   rintro e w24 ⟨rfl, hb⟩
   refine ⟨_, rfl, ?_⟩
   replace O0 := sqU O0 hb
   replace O2 := sqU O2 hb
   replace B0 := sqT B0 hb
   replace B2 := sqT B2 hb
   replace B9 := sqT B9 hb
   replace B10 := sqT B10 hb
   replace B14 := sqT B14 hb
   replace HB := sqa (below_step (Z44 E0 E1 E2 E3 E5) hb)
   refine hK.out _ _ (sqk1 B9) (fun hHeld => ?_)
   clear hK K
   refine sqN (some 75) ?_
   refine sq1k 3 none (h := fun K hK => ?_)
   have := sqY3 B2
   have := sqn6 N0 N5 N9 N23 N1 N4
   have := sqn2 N8 N22
   refine skip_ (w1 := ?_) (by rfl) rfl ?_ ?_
   rotate_left
   ·go_simp
    rfl
   refine hK.out _ _ (sql1 N5 hHeld) (fun hHeld => ?_)
   clear hK K
   refine sqPk 4 (some 5) (h := ?_)
   refine done_ (by kernel_rfl) ?_
   try go_wp2
   refine sqE gb619 34 #[.int .i64 t621, .int .i64 t622, .slice Ao0 t1.length co0] (Z59 B2) underlying34 ?_
   exact ⟨_, Z5, Kd.Q_of_R (by (with_reducible repeat (first | apply Kd.R_alloc | apply Kd.R_drewN | apply Kd.R_drew)); exact Kd.R_mono (sqr3 O0.1 B2.1) (fun _ hk => trivial)), Z44 E0 E1 E2 E3 E5⟩
  have c15 := sqe0 c14
  have c16 := sqn1 c14
  (first | rw [c15] | rw [c16] | simp only [i64_w, i32_w, c15, c16] | skip)
  go_upto_if 76 with fail
  obtain ⟨c17, H⟩ | ⟨c17, H⟩ := sqi2 H
  ·have c18 := sqe1 c17
   have c19 := sqn0 c17
   (first | rw [c18] | rw [c19] | simp only [i64_w, i32_w, c18, c19] | skip)
   clear c17
   obtain ⟨t11, A7, H⟩ := sqD H
   obtain ⟨t12, A9, H⟩ := sqD H
   obtain ⟨rfl, rfl, rfl, rfl⟩ := sqO4 H
   try go_wp2_with fail
   obtain ⟨w25, hw_⟩ : ∃ w_, (w87.setCell ⟨gb638, 0, none⟩ (.int .i64 a0_0)).setCell ⟨gb638, 1, none⟩ (.int .i64 a0_1) = w_ := ⟨_, rfl⟩
   replace O0 : Aside0 (Kd.R k31 31 w25 w.heap.size (fun k_ => k_ ≠ gb638) (.slice Ao0 t1.length co0) t1) := by rw [← hw_]; exact ⟨Z63 O0⟩
   replace B0 := sqJ hw_ N20 B0
   replace B2 := sqJ hw_ N22 B2
   replace B9 := sqJ hw_ N24 B9
   replace B10 := sqJ hw_ N26 B10
   replace B14 : Aside0 (w25.heap[gb638]? = some (.cells #[.int .i64 a0_0, .int .i64 a0_1] 31 (0, 0))) := by rw [← hw_]; exact ⟨Z4 B14⟩
   replace HB : Aside0 (Below w.heap.size w w25) := by rw [← hw_]; exact ⟨Z44 E0 E1 E2 E3 E5⟩
   rw [hw_]; clear hw_
   replace O0 := sqa (Kd.R_drew O0.1)
   replace B0 := sqa (blk_drew B0.1)
   replace B2 := sqa (blk_drew B2.1)
   replace B9 := sqa (blk_drew B9.1)
   replace B10 := sqa (blk_drew B10.1)
   replace B14 := sqa (blk_drew B14.1)
   replace HB := sqa (below_drew1 HB.1)
   refine start_ (n := 6) (S := fun w' => w'.cell? ⟨g0, 0, none⟩ = some (.int .i64 t621) ∧ w'.cell? ⟨g0, 1, none⟩ = some (.int .i64 t622) ∧ w'.cell? ⟨g0, 2, none⟩ = some (.slice Ao0 t1.length co0) ∧ w'.cell? ⟨gb638, 0, none⟩ = some (.int .i64 a0_0) ∧ w'.cell? ⟨gb638, 1, none⟩ = some (.int .i64 a0_1)) (ds := []) #[false, false, false, false, false, false] (by kernel_rfl) rfl rfl (sqk2 B9 B14) (fun hHeld => ?_)
   generalize w25.drew = w26 at O0 B0 B2 B9 B10 B14 HB hHeld ⊢
   refine sqQk 0 (some 78) hHeld (h := ?_)
   refine sqQk 1 (some 79) hHeld (h := ?_)
   refine sq1k 2 (some 80) (h := fun K hK => ?_)
   refine sqg func94 #[.agg #[.int .i64 a0_0, .int .i64 a0_1]] ?_
   with_reducible refine (F46.c k a0_0 a0_1 t11 _ A7.1).mono ?_
   rintro e w27 ⟨rfl, hb⟩
   refine ⟨_, rfl, ?_⟩
   replace O0 := sqU O0 hb
   replace B0 := sqT B0 hb
   replace B2 := sqT B2 hb
   replace B9 := sqT B9 hb
   replace B10 := sqT B10 hb
   replace B14 := sqT B14 hb
   replace HB := sqa (below_step (Z44 E0 E1 E2 E3 E5) hb)
   refine hK.out _ _ (sqk2 B9 B14) (fun hHeld => ?_)
   clear hK K
   refine sqN (some 80) ?_
   refine sq1k 3 (some 81) (h := fun K hK => ?_)
   refine sqg func93 #[.int .i64 t11] ?_
   with_reducible refine (F4.c k t11 t12 _ A9.1).mono ?_
   rintro e w28 ⟨rfl, hb⟩
   refine ⟨_, rfl, ?_⟩
   replace O0 := sqU O0 hb
   replace B0 := sqT B0 hb
   replace B2 := sqT B2 hb
   replace B9 := sqT B9 hb
   replace B10 := sqT B10 hb
   replace B14 := sqT B14 hb
   replace HB := sqa (below_step (Z44 E0 E1 E2 E3 E5) hb)
   refine hK.out _ _ (sqk2 B9 B14) (fun hHeld => ?_)
   clear hK K
   refine sqN (some 81) ?_
   refine sq1k 4 none (h := fun K hK => ?_)
   have := sqY3 B2
   have := sqn6 N0 N5 N9 N23 N1 N4
   have := sqn2 N8 N22
   refine skip_ (w1 := ?_) (by rfl) rfl ?_ ?_
   rotate_left
   ·go_simp
    rfl
   refine hK.out _ _ (sql2 N5 N23 hHeld) (fun hHeld => ?_)
   clear hK K
   refine sqPk 5 (some 5) (h := ?_)
   refine done_ (by kernel_rfl) ?_
   try go_wp2
   refine sqE gb619 34 #[.int .i64 t621, .int .i64 t622, .slice Ao0 t1.length co0] (Z59 B2) underlying34 ?_
   exact ⟨_, Z5, Kd.Q_of_R (by (with_reducible repeat (first | apply Kd.R_alloc | apply Kd.R_drewN | apply Kd.R_drew)); exact Kd.R_mono (sqr3 O0.1 B2.1) (fun _ hk => trivial)), Z44 E0 E1 E2 E3 E5⟩
  have c18 := sqe0 c17
  have c19 := sqn1 c17
  (first | rw [c18] | rw [c19] | simp only [i64_w, i32_w, c18, c19] | skip)
  go_upto_if 82 with fail
  obtain ⟨c20, H⟩ | ⟨c20, H⟩ := sqi2 H
  ·have c21 := sqe1 c20
   have c22 := sqn0 c20
   (first | rw [c21] | rw [c22] | simp only [i64_w, i32_w, c21, c22] | skip)
   clear c20
   obtain ⟨t13, A10, H⟩ := sqD H
   obtain ⟨t14, A11, H⟩ := sqD H
   obtain ⟨rfl, rfl, rfl, rfl⟩ := sqO4 H
   try go_wp2_with fail
   obtain ⟨w31, hw_⟩ : ∃ w_, (w87.setCell ⟨gb638, 0, none⟩ (.int .i64 a0_0)).setCell ⟨gb638, 1, none⟩ (.int .i64 a0_1) = w_ := ⟨_, rfl⟩
   replace O0 : Aside0 (Kd.R k31 31 w31 w.heap.size (fun k_ => k_ ≠ gb638) (.slice Ao0 t1.length co0) t1) := by rw [← hw_]; exact ⟨Z63 O0⟩
   replace B0 := sqJ hw_ N20 B0
   replace B2 := sqJ hw_ N22 B2
   replace B9 := sqJ hw_ N24 B9
   replace B10 := sqJ hw_ N26 B10
   replace B14 : Aside0 (w31.heap[gb638]? = some (.cells #[.int .i64 a0_0, .int .i64 a0_1] 31 (0, 0))) := by rw [← hw_]; exact ⟨Z4 B14⟩
   replace HB : Aside0 (Below w.heap.size w w31) := by rw [← hw_]; exact ⟨Z44 E0 E1 E2 E3 E5⟩
   rw [hw_]; clear hw_
   replace O0 := sqa (Kd.R_drew O0.1)
   replace B0 := sqa (blk_drew B0.1)
   replace B2 := sqa (blk_drew B2.1)
   replace B9 := sqa (blk_drew B9.1)
   replace B10 := sqa (blk_drew B10.1)
   replace B14 := sqa (blk_drew B14.1)
   replace HB := sqa (below_drew1 HB.1)
   refine start_ (n := 6) (S := fun w' => w'.cell? ⟨g0, 0, none⟩ = some (.int .i64 t621) ∧ w'.cell? ⟨g0, 1, none⟩ = some (.int .i64 t622) ∧ w'.cell? ⟨g0, 2, none⟩ = some (.slice Ao0 t1.length co0) ∧ w'.cell? ⟨gb638, 0, none⟩ = some (.int .i64 a0_0) ∧ w'.cell? ⟨gb638, 1, none⟩ = some (.int .i64 a0_1)) (ds := []) #[false, false, false, false, false, false] (by kernel_rfl) rfl rfl (sqk2 B9 B14) (fun hHeld => ?_)
   generalize w31.drew = w32 at O0 B0 B2 B9 B10 B14 HB hHeld ⊢
   refine sqQk 0 (some 84) hHeld (h := ?_)
   refine sqQk 1 (some 85) hHeld (h := ?_)
   refine sq1k 2 (some 86) (h := fun K hK => ?_)
   refine sqg func95 #[.agg #[.int .i64 a0_0, .int .i64 a0_1]] ?_
   with_reducible refine (F77.c k a0_0 a0_1 t13 _ A10.1).mono ?_
   rintro e w33 ⟨v3, rfl, ho0, hb⟩
   refine ⟨_, rfl, ?_⟩
   replace O0 := sqU O0 hb
   have O3 := sqa (Kd.R_lower ho0 (below_size (Z44 E0 E1 E2 E3 E5)))
   replace B0 := sqT B0 hb
   replace B2 := sqT B2 hb
   replace B9 := sqT B9 hb
   replace B10 := sqT B10 hb
   replace B14 := sqT B14 hb
   replace HB := sqa (below_step (Z44 E0 E1 E2 E3 E5) hb)
   obtain ⟨Ao3, co3, eo3⟩ := Kd.R_slice O3.1
   (first | subst eo3 | (injection eo3 with f1_ f2_ f3_; have f4_ := f1_.symm; have f5_ := f3_.symm; clear f1_ f2_ f3_; subst f4_; subst f5_))
   refine hK.out _ _ (sqk2 B9 B14) (fun hHeld => ?_)
   clear hK K
   refine sqN (some 86) ?_
   refine sq1k 3 (some 87) (h := fun K hK => ?_)
   refine sqg func92 #[.slice Ao3 t13.length co3] ?_
   with_reducible refine (F33.c k _ _ t13 t14 _ ?side1 ?side2 A11.1).mono ?_
   (case side1 => exact Z7 O3)
   (case side2 => exact Z8 O3)
   rintro e w34 ⟨rfl, hb⟩
   refine ⟨_, rfl, ?_⟩
   replace O0 := sqU O0 hb
   replace O3 := sqU O3 hb
   replace B0 := sqT B0 hb
   replace B2 := sqT B2 hb
   replace B9 := sqT B9 hb
   replace B10 := sqT B10 hb
   replace B14 := sqT B14 hb
   replace HB := sqa (below_step (Z44 E0 E1 E2 E3 E5) hb)
   refine hK.out _ _ (sqk2 B9 B14) (fun hHeld => ?_)
   clear hK K
   refine sqN (some 87) ?_
   refine sq1k 4 none (h := fun K hK => ?_)
   have := sqY3 B2
   have := sqn6 N0 N5 N9 N23 N1 N4
   have := sqn2 N8 N22
   refine skip_ (w1 := ?_) (by rfl) rfl ?_ ?_
   rotate_left
   ·go_simp
    rfl
   refine hK.out _ _ (sql2 N5 N23 hHeld) (fun hHeld => ?_)
   clear hK K
   refine sqPk 5 (some 5) (h := ?_)
   refine done_ (by kernel_rfl) ?_
   try go_wp2
   refine sqE gb619 34 #[.int .i64 t621, .int .i64 t622, .slice Ao0 t1.length co0] (Z59 B2) underlying34 ?_
   exact ⟨_, Z5, Kd.Q_of_R (by (with_reducible repeat (first | apply Kd.R_alloc | apply Kd.R_drewN | apply Kd.R_drew)); exact Kd.R_mono (sqr3 O0.1 B2.1) (fun _ hk => trivial)), Z44 E0 E1 E2 E3 E5⟩
  have c21 := sqe0 c20
  have c22 := sqn1 c20
  (first | rw [c21] | rw [c22] | simp only [i64_w, i32_w, c21, c22] | skip)
  go_upto_if 88 with fail
  obtain ⟨c23, H⟩ | ⟨c23, H⟩ := sqi2 H
  ·have c24 := sqe1 c23
   have c25 := sqn0 c23
   (first | rw [c24] | rw [c25] | simp only [i64_w, i32_w, c24, c25] | skip)
   clear c23
   obtain ⟨t15, A12, H⟩ := sqD H
   obtain ⟨t16, A13, H⟩ := sqD H
   obtain ⟨rfl, rfl, rfl, rfl⟩ := sqO4 H
   try go_wp2_with fail
   obtain ⟨w35, hw_⟩ : ∃ w_, (w87.setCell ⟨gb638, 0, none⟩ (.int .i64 a0_0)).setCell ⟨gb638, 1, none⟩ (.int .i64 a0_1) = w_ := ⟨_, rfl⟩
   replace O0 : Aside0 (Kd.R k31 31 w35 w.heap.size (fun k_ => k_ ≠ gb638) (.slice Ao0 t1.length co0) t1) := by rw [← hw_]; exact ⟨Z63 O0⟩
   replace B0 := sqJ hw_ N20 B0
   replace B2 := sqJ hw_ N22 B2
   replace B9 := sqJ hw_ N24 B9
   replace B10 := sqJ hw_ N26 B10
   replace B14 : Aside0 (w35.heap[gb638]? = some (.cells #[.int .i64 a0_0, .int .i64 a0_1] 31 (0, 0))) := by rw [← hw_]; exact ⟨Z4 B14⟩
   replace HB : Aside0 (Below w.heap.size w w35) := by rw [← hw_]; exact ⟨Z44 E0 E1 E2 E3 E5⟩
   rw [hw_]; clear hw_
   replace O0 := sqa (Kd.R_drew O0.1)
   replace B0 := sqa (blk_drew B0.1)
   replace B2 := sqa (blk_drew B2.1)
   replace B9 := sqa (blk_drew B9.1)
   replace B10 := sqa (blk_drew B10.1)
   replace B14 := sqa (blk_drew B14.1)
   replace HB := sqa (below_drew1 HB.1)
   refine start_ (n := 6) (S := fun w' => w'.cell? ⟨g0, 0, none⟩ = some (.int .i64 t621) ∧ w'.cell? ⟨g0, 1, none⟩ = some (.int .i64 t622) ∧ w'.cell? ⟨g0, 2, none⟩ = some (.slice Ao0 t1.length co0) ∧ w'.cell? ⟨gb638, 0, none⟩ = some (.int .i64 a0_0) ∧ w'.cell? ⟨gb638, 1, none⟩ = some (.int .i64 a0_1)) (ds := []) #[false, false, false, false, false, false] (by kernel_rfl) rfl rfl (sqk2 B9 B14) (fun hHeld => ?_)
   generalize w35.drew = w36 at O0 B0 B2 B9 B10 B14 HB hHeld ⊢
   refine sqQk 0 (some 90) hHeld (h := ?_)
   refine sqQk 1 (some 91) hHeld (h := ?_)
   refine sq1k 2 (some 92) (h := fun K hK => ?_)
   refine sqg func96 #[.agg #[.int .i64 a0_0, .int .i64 a0_1]] ?_
   with_reducible refine (F83.c k a0_0 a0_1 t15 _ A12.1).mono ?_
   rintro e w37 ⟨rfl, hb⟩
   refine ⟨_, rfl, ?_⟩
   replace O0 := sqU O0 hb
   replace B0 := sqT B0 hb
   replace B2 := sqT B2 hb
   replace B9 := sqT B9 hb
   replace B10 := sqT B10 hb
   replace B14 := sqT B14 hb
   replace HB := sqa (below_step (Z44 E0 E1 E2 E3 E5) hb)
   refine hK.out _ _ (sqk2 B9 B14) (fun hHeld => ?_)
   clear hK K
   refine sqN (some 92) ?_
   refine sq1k 3 (some 93) (h := fun K hK => ?_)
   refine sqg func93 #[.int .i64 t15] ?_
   with_reducible refine (F4.c k t15 t16 _ A13.1).mono ?_
   rintro e w38 ⟨rfl, hb⟩
   refine ⟨_, rfl, ?_⟩
   replace O0 := sqU O0 hb
   replace B0 := sqT B0 hb
   replace B2 := sqT B2 hb
   replace B9 := sqT B9 hb
   replace B10 := sqT B10 hb
   replace B14 := sqT B14 hb
   replace HB := sqa (below_step (Z44 E0 E1 E2 E3 E5) hb)
   refine hK.out _ _ (sqk2 B9 B14) (fun hHeld => ?_)
   clear hK K
   refine sqN (some 93) ?_
   refine sq1k 4 none (h := fun K hK => ?_)
   have := sqY3 B2
   have := sqn6 N0 N5 N9 N23 N1 N4
   have := sqn2 N8 N22
   refine skip_ (w1 := ?_) (by rfl) rfl ?_ ?_
   rotate_left
   ·go_simp
    rfl
   refine hK.out _ _ (sql2 N5 N23 hHeld) (fun hHeld => ?_)
   clear hK K
   refine sqPk 5 (some 5) (h := ?_)
   refine done_ (by kernel_rfl) ?_
   try go_wp2
   refine sqE gb619 34 #[.int .i64 t621, .int .i64 t622, .slice Ao0 t1.length co0] (Z59 B2) underlying34 ?_
   exact ⟨_, Z5, Kd.Q_of_R (by (with_reducible repeat (first | apply Kd.R_alloc | apply Kd.R_drewN | apply Kd.R_drew)); exact Kd.R_mono (sqr3 O0.1 B2.1) (fun _ hk => trivial)), Z44 E0 E1 E2 E3 E5⟩
  have c24 := sqe0 c23
  have c25 := sqn1 c23
  (first | rw [c24] | rw [c25] | simp only [i64_w, i32_w, c24, c25] | skip)
  go_upto_if 94 with fail
  obtain ⟨c26, H⟩ | ⟨c26, H⟩ := sqi2 H
  ·have c27 := sqe1 c26
   have c28 := sqn0 c26
   (first | rw [c27] | rw [c28] | simp only [i64_w, i32_w, c27, c28] | skip)
   clear c26
   obtain ⟨⟨t17, t18, t19⟩, A14, H⟩ := sqD H
   try dsimp only at H
   go_upto_if 102 with (first | ((with_reducible refine sqc 97 rfl ?_); refine sqv (some 98) func97 (F51.c k a0_0 a0_1 t17 t18 t19 _ A14.1) fun w39 hb => ?_; replace O0 := sqa (Kd.R_below (Z64 O0) hb); replace B0 := sqH N20 B0 hb; replace B2 := sqH N22 B2 hb; replace B9 := sqH N24 B9 hb; replace B10 := sqH N26 B10 hb; replace B14 := sqa (blk_below (g := gb638) (o := .cells #[.int .i64 a0_0, .int .i64 a0_1] 31 (0, 0)) (Z4 B14) hb); replace HB := sqa (below_step (Z44 E0 E1 E2 E3 E5) hb)) | ((with_reducible refine sqd 16 rfl ?_); refine sqBox (N := 16) (cs := #[.int .i64 0, .int .i64 0]) (t := 116) ?_; intro g2 hg w40 B15 hb; replace O0 := sqU O0 hb; have GW0 := sqa ((by rw [hg]; exact (below_size (Z44 E0 E1 E2 E3 E5)) : w.heap.size ≤ g2)); have E6 := GW0; replace HB := sqa (below_step (Z44 E0 E1 E2 E3 E5) hb); obtain ⟨N28, N29⟩ := sqM hg B0; replace B0 := sqT B0 hb; obtain ⟨N30, N31⟩ := sqM hg B2; replace B2 := sqT B2 hb; obtain ⟨N32, N33⟩ := sqM hg B9; replace B9 := sqT B9 hb; obtain ⟨N34, N35⟩ := sqM hg B10; replace B10 := sqT B10 hb; obtain ⟨N36, N37⟩ := sqM hg B14; replace B14 := sqT B14 hb; clear hb hg; have := sqn6 N29 N28 N31 N30 N33 N32; have := sqn4 N35 N34 N37 N36; have := sqY2 B15; have := sqY3 B9; have := sqY3 B2))
   obtain rfl | rfl := sqt t19
   ·rw [if_pos rfl] at H
    obtain ⟨⟨t20, t21, t22⟩, A15, H⟩ := sqD H
    try dsimp only at H
    obtain ⟨t23, A16, H⟩ := sqD H
    obtain ⟨c30, c31, c32, H⟩ := sqJ5 H
    try have c33 : (9223372036854775807 < t23.size + 1) = False := eq_false (Nat.not_lt.2 c30)
    obtain ⟨t24, A17, H⟩ := sqD H
    obtain ⟨c34, c35, c36, H⟩ := sqJ5 H
    try have c37 : (9223372036854775807 < (t23 ++ (⟨#[58]⟩ : ByteArray)).size + t24.size) = False := eq_false (Nat.not_lt.2 c34)
    try have c38 : (9223372036854775807 < t23.size + 1 + t24.size) = False := by (have h_ := c37; (repeat rw [ByteArray.size_append] at h_); exact h_)
    obtain ⟨rfl, rfl, rfl, rfl⟩ := sqO4 H
    try go_wp2_with (first | ((with_reducible refine sqc 98 rfl ?_); refine sqv (some 106) func98 (F50.c k t17 t18 t20 t21 t22 _ A15.1) fun w41 hb => ?_; replace O0 := sqa (Kd.R_below (by (with_reducible repeat (first | apply Kd.R_alloc | apply Kd.R_drewN | apply Kd.R_drew)); exact (Kd.R_mono (sqr2 O0.1 B15.1) (fun _ h_ => h_.1))) hb); replace B0 := sqH N28 B0 hb; replace B2 := sqH N30 B2 hb; replace B9 := sqH N32 B9 hb; replace B10 := sqH N34 B10 hb; replace B14 := sqH N36 B14 hb; replace B15 := sqa (blk_below (g := g2) (o := .cells #[.int .i64 t17, .int .i64 t18] 116 (0, 0)) (by refine sqPut (cs := #[.int .i64 t17, .int .i64 0]) ?_ 1; refine sqPut (cs := #[.int .i64 0, .int .i64 0]) ?_ 0; exact sqK B15) hb); replace HB := sqa (below_step (Z65 E0 E1 E2 E3 E5 E6) hb)) | ((with_reducible refine sqd 18 rfl ?_); refine sqBox (N := 18) (cs := #[.int .i64 0, .int .i64 0]) (t := 116) ?_; intro g3 hg w42 B16 hb; replace O0 := sqU O0 hb; have GW1 := sqa ((by rw [hg]; exact (below_size (Z65 E0 E1 E2 E3 E5 E6)) : w.heap.size ≤ g3)); have E7 := GW1; replace HB := sqa (below_step (Z65 E0 E1 E2 E3 E5 E6) hb); obtain ⟨N38, N39⟩ := sqM hg B0; replace B0 := sqT B0 hb; obtain ⟨N40, N41⟩ := sqM hg B2; replace B2 := sqT B2 hb; obtain ⟨N42, N43⟩ := sqM hg B9; replace B9 := sqT B9 hb; obtain ⟨N44, N45⟩ := sqM hg B10; replace B10 := sqT B10 hb; obtain ⟨N46, N47⟩ := sqM hg B14; replace B14 := sqT B14 hb; obtain ⟨N48, N49⟩ := sqM hg B15; replace B15 := sqT B15 hb; clear hb hg; have := sqn6 N39 N38 N41 N40 N43 N42; have := sqn6 N45 N44 N47 N46 N49 N48; have := sqY2 B16))
    obtain ⟨w43, hw_⟩ : ∃ w_, (w42.setCell ⟨g3, 0, none⟩ (.int .i64 t20)).setCell ⟨g3, 1, none⟩ (.int .i64 t21) = w_ := ⟨_, rfl⟩
    replace O0 : Aside0 (Kd.R k31 31 w43 w.heap.size (fun k_ => k_ ≠ gb638) (.slice Ao0 t1.length co0) t1) := by rw [← hw_]; exact ⟨by (with_reducible repeat (first | apply Kd.R_alloc | apply Kd.R_drewN | apply Kd.R_drew)); exact Kd.R_mono (sqr2 O0.1 B16.1) (fun _ hk => hk.1.2)⟩
    replace B0 := sqJ hw_ N38 B0
    replace B2 := sqJ hw_ N40 B2
    replace B9 := sqJ hw_ N42 B9
    replace B10 := sqJ hw_ N44 B10
    replace B14 := sqJ hw_ N46 B14
    replace B15 := sqJ hw_ N48 B15
    replace B16 : Aside0 (w43.heap[g3]? = some (.cells #[.int .i64 t20, .int .i64 t21] 116 (0, 0))) := by rw [← hw_]; exact ⟨by refine sqPut (cs := #[.int .i64 t20, .int .i64 0]) ?_ 1; refine sqPut (cs := #[.int .i64 0, .int .i64 0]) ?_ 0; exact sqK B16⟩
    replace HB : Aside0 (Below w.heap.size w w43) := by rw [← hw_]; exact ⟨Z66 E0 E1 E2 E3 E5 E6 E7⟩
    rw [hw_]; clear hw_
    replace O0 := sqa (Kd.R_drew O0.1)
    replace B0 := sqa (blk_drew B0.1)
    replace B2 := sqa (blk_drew B2.1)
    replace B9 := sqa (blk_drew B9.1)
    replace B10 := sqa (blk_drew B10.1)
    replace B14 := sqa (blk_drew B14.1)
    replace B15 := sqa (blk_drew B15.1)
    replace B16 := sqa (blk_drew B16.1)
    replace HB := sqa (below_drew1 HB.1)
    refine start_ (n := 11) (S := fun w' => w'.cell? ⟨g0, 0, none⟩ = some (.int .i64 t621) ∧ w'.cell? ⟨g0, 1, none⟩ = some (.int .i64 t622) ∧ w'.cell? ⟨g0, 2, none⟩ = some (.slice Ao0 t1.length co0) ∧ w'.cell? ⟨g3, 0, none⟩ = some (.int .i64 t20) ∧ w'.cell? ⟨g3, 1, none⟩ = some (.int .i64 t21)) (ds := []) #[false, false, false, false, false, false, false, false, false, false, false] (by kernel_rfl) rfl rfl (sqk2 B9 B16) (fun hHeld => ?_); refine with_tabW F13.tab33 F13.bits33 (fun HT_ HW_ => ?_)
    generalize w43.drew = w44 at O0 B0 B2 B9 B10 B14 B15 B16 HB hHeld ⊢
    refine sqP 1 (some 110) (h := ?_)
    refine sqP 5 (some 114) (h := ?_)
    refine sqQ 0 (some 109) hHeld (h := ?_)
    refine sqQ 2 (some 111) hHeld (h := ?_)
    refine sqQ 6 (some 115) hHeld (h := ?_)
    refine sq1 3 (some 112) (h := fun K hK => ?_)
    refine sqg func93 #[.int .i64 t20] ?_
    with_reducible refine (F4.c k t20 t23 _ A16.1).mono ?_
    rintro e w45 ⟨rfl, hb⟩
    refine ⟨_, rfl, ?_⟩
    replace O0 := sqU O0 hb
    replace B0 := sqT B0 hb
    replace B2 := sqT B2 hb
    replace B9 := sqT B9 hb
    replace B10 := sqT B10 hb
    replace B14 := sqT B14 hb
    replace B15 := sqT B15 hb
    replace B16 := sqT B16 hb
    replace HB := sqa (below_step (Z66 E0 E1 E2 E3 E5 E6 E7) hb)
    refine hK.out _ _ (sqk2 B9 B16) (fun hHeld => ?_)
    clear hK K
    refine sqN (some 112) ?_
    refine sqP 4 (some 113) (h := ?_)
    refine sq1 7 (some 116) (h := fun K hK => ?_)
    refine sqg func93 #[.int .i64 t21] ?_
    with_reducible refine (F4.c k t21 t24 _ A17.1).mono ?_
    rintro e w46 ⟨rfl, hb⟩
    refine ⟨_, rfl, ?_⟩
    replace O0 := sqU O0 hb
    replace B0 := sqT B0 hb
    replace B2 := sqT B2 hb
    replace B9 := sqT B9 hb
    replace B10 := sqT B10 hb
    replace B14 := sqT B14 hb
    replace B15 := sqT B15 hb
    replace B16 := sqT B16 hb
    replace HB := sqa (below_step (Z66 E0 E1 E2 E3 E5 E6 E7) hb)
    refine hK.out _ _ (sqk2 B9 B16) (fun hHeld => ?_)
    clear hK K
    refine sqN (some 116) ?_
    refine sqP 8 (some 117) (h := ?_)
    refine sq1 9 none (h := fun K hK => ?_)
    have := sqY3 B2
    have := sqn6 N0 N5 N9 N23 N31 N41
    have := sqn6 N1 N4 N8 N22 N30 N40
    refine skip_ (w1 := ?_) (by rfl) rfl ?_ ?_
    rotate_left
    ·go_simp
     rfl
    refine hK.out _ _ (sql2 N5 N41 hHeld) (fun hHeld => ?_)
    clear hK K
    refine sqP 10 (some 5) (h := ?_)
    refine done_ (done_of HT_.out (by kernel_rfl)) ?_
    try go_wp2
    refine sqE gb619 34 #[.int .i64 t621, .int .i64 t622, .slice Ao0 t1.length co0] (Z59 B2) underlying34 ?_
    exact ⟨_, Z5, Kd.Q_of_R (by (with_reducible repeat (first | apply Kd.R_alloc | apply Kd.R_drewN | apply Kd.R_drew)); exact Kd.R_mono (sqr3 O0.1 B2.1) (fun _ hk => trivial)), Z66 E0 E1 E2 E3 E5 E6 E7⟩
   rw [if_neg sqF] at H
   obtain ⟨rfl, rfl, rfl, rfl⟩ := sqO4 H
   go_wp2_with fail
   refine sqE gb619 34 #[.int .i64 t621, .int .i64 t622, .slice Ao0 t1.length co0] (by refine sqPut (cs := #[.int .i64 t621, .int .i64 t622, .slice none 0 0]) ?_ 2; refine sqPut (cs := #[.int .i64 t621, .int .i64 0, .slice none 0 0]) ?_ 1; refine sqPut (cs := #[.int .i64 0, .int .i64 0, .slice none 0 0]) ?_ 0; refine sqFar ?_ N30; refine sqFar ?_ N30; exact sqK B2) underlying34 ?_
   exact ⟨_, Z5, Kd.Q_of_R (by (with_reducible repeat (first | apply Kd.R_alloc | apply Kd.R_drewN | apply Kd.R_drew)); exact Kd.R_mono (Kd.R_far (p := ⟨gb619, 2, none⟩) (Kd.R_far (p := ⟨gb619, 1, none⟩) (Kd.R_far (p := ⟨gb619, 0, none⟩) (Kd.R_far (p := ⟨g2, 1, none⟩) (Kd.R_far (p := ⟨g2, 0, none⟩) (Kd.R_types (Kd.R_types O0.1 B15.1 (by decide)) B2.1 (by decide)) (fun _ hk => hk.1.2) (.int .i64 t17)) (fun _ hk => hk.1.2) (.int .i64 t18)) (fun _ hk => hk.2) (.int .i64 t621)) (fun _ hk => hk.2) (.int .i64 t622)) (fun _ hk => hk.2) (.slice Ao0 t1.length co0)) (fun _ hk => trivial)), Z65 E0 E1 E2 E3 E5 E6⟩
  have c27 := sqe0 c26
  have c28 := sqn1 c26
  (first | rw [c27] | rw [c28] | simp only [i64_w, i32_w, c27, c28] | skip)
  obtain ⟨t25, A18, H⟩ := sqD H
  have HC0 := sqa H
  clear H
  go_upto_region 35 with (first | ((with_reducible refine sqc 99 rfl ?_); refine sqvo (some 119) func99 (F21.c k a1 32 t25 _ A18.1) fun v4 w47 ho0 hb => ?_; replace O0 := sqa (Kd.R_below (Z64 O0) hb); have O4 := sqa (Kd.R_lower ho0 (below_size (Z44 E0 E1 E2 E3 E5))); replace B0 := sqH N20 B0 hb; replace B2 := sqH N22 B2 hb; replace B9 := sqH N24 B9 hb; replace B10 := sqH N26 B10 hb; replace B14 := sqa (blk_below (g := gb638) (o := .cells #[.int .i64 a0_0, .int .i64 a0_1] 31 (0, 0)) (Z4 B14) hb); replace HB := sqa (below_step (Z44 E0 E1 E2 E3 E5) hb); (try clear ho0)))
  (try simp only [Act.put, List.setIfInBounds_toArray, List.set_cons_zero, List.set_cons_succ])
  go_cut [128] (fun v5 wc => ∃ (kq : Nat) (x0 : Bool), v5 = .bool x0 ∧ Aside0 (F13.j0 kq t25 x0 t621 t622 t1 a0_0 a0_1 = some (r1, r2, r3, r4)) ∧ Aside0 (kq ≤ k) ∧ Aside0 (Kd.R Kd.string 9 wc w.heap.size (fun _ => True) v4 t25) ∧ Aside0 (Kd.Q k31 31 wc w.heap.size (fun k_ => k_ ≠ gb638) (.slice Ao0 t1.length co0) t1) ∧ Aside0 (wc.heap[gb618]? = some (.cells #[.int .i64 a0_0, .int .i64 a0_1, (.slice A0_2 l0_2.length c0_2)] 34 (0, 0))) ∧ Aside0 (wc.heap[gb619]? = some (.cells #[.int .i64 0, .int .i64 0, (.slice none 0 0)] 34 (0, 0))) ∧ Aside0 (wc.heap[g0]? = some (.cells #[.int .i64 t621, .int .i64 t622, (.slice Ao0 t1.length co0)] 34 (0, 0))) ∧ Aside0 (wc.heap[gb630]? = some (.cells #[.int .i64 t627, .string t628] 38 (0, 0))) ∧ Aside0 (wc.heap[gb638]? = some (.cells #[.int .i64 a0_0, .int .i64 a0_1] 31 (0, 0))) ∧ Aside0 (Below w.heap.size w wc))
  case first =>
   have H := HC0.1
   clear HC0
   obtain ⟨c40, c41, H⟩ | ⟨c40, c41, c39, H⟩ := sqi4 H
   ·(first | rw [c40] | (simp only [i64_w, i32_w]; rw [c40]) | skip)
    obtain ⟨c42, c43, H⟩ := sqJ4 H
    have c44 : decide (0 < t25.length) = true := decide_eq_true (by omega)
    clear c42
    have H' := sqa H
    clear H
    obtain ⟨Ao4, co4, eo4⟩ := Kd.R_slice O4.1
    subst eo4
    have p0 : 0 ≤ (0 : Int) := (by omega)
    have q0 : 0 < (t25.length : Int) := of_decide_eq_true Z16
    obtain ⟨ad0, e0, hx0⟩ := Kd.at_string (Kd.R_reads' O4.1).2.2 0 p0 q0
    cases e0
    have qi0 : (0 < t25.length) = True := eq_true (by omega)
    (try rw [show ((0 : Int)).toNat = 0 from rfl] at hx0)
    (try rw [Addr.add_zero'] at hx0)
    replace p0 := eq_true p0
    replace q0 := eq_true q0
    go_wp2
    go_meet
    case rel => exact ⟨_, (((rdOf ByteArray.empty t25 0).toList != ([99, 111, 108, 111, 117, 114, 115] : List UInt8))), Z1, H', ⟨Z11⟩, ⟨sqR O4⟩, ⟨Kd.Q_of_R (Z51 O0)⟩, ⟨sqK B0⟩, ⟨sqK B2⟩, ⟨sqK B9⟩, ⟨sqK B10⟩, ⟨sqK B14⟩, ⟨Z44 E0 E1 E2 E3 E5⟩⟩
   (first | rw [c40] | (simp only [i64_w, i32_w]; rw [c40]) | skip)
   have H' := sqa H
   clear H
   obtain ⟨Ao5, co5, eo5⟩ := Kd.R_slice O4.1
   subst eo5
   go_wp2
   go_meet
   case rel => exact ⟨_, (true), Z1, H', ⟨Z11⟩, ⟨sqR O4⟩, ⟨Kd.Q_of_R (Z51 O0)⟩, ⟨sqK B0⟩, ⟨sqK B2⟩, ⟨sqK B9⟩, ⟨sqK B10⟩, ⟨sqK B14⟩, ⟨Z44 E0 E1 E2 E3 E5⟩⟩
  case rest =>
   clear HC0
   obtain ⟨kq, x0, rfl, HA, HJ0, O5, O6, B0, B2, B9, B10, B14, HB⟩ := hcut
   cases kq with
   | zero => exact absurd HA.out (by simp [F13.j0])
   | succ kj0 =>
    have H := HA.out
    clear HA
    simp only [F13.j0] at H
    obtain rfl | rfl := sqt x0
    ·rw [if_pos rfl] at H
     obtain ⟨rfl, rfl, rfl, rfl⟩ := sqO4 H
     have := sqn6 N3 N2 N5 N4 N10 N11
     have := sqn2 N24 N25
     have := sqY3 B9
     have := sqn6 N1 N0 N8 N9 N22 N23
     have := sqY3 B2
     go_wp2
     refine sqE gb619 34 #[.int .i64 t621, .int .i64 t622, .slice Ao0 t1.length co0] (Z59 B2) underlying34 ?_
     exact ⟨_, Z5, Z67 O6 B2, Z44 E0 E1 E2 E3 E5⟩
    rw [if_neg sqF] at H
    obtain ⟨c46, c47, H⟩ := sqJ4 H
    have c48 : decide (1 < t25.length) = true := decide_eq_true (by omega)
    clear c46
    obtain ⟨⟨t26, t27⟩, A19, H⟩ := sqD H
    try dsimp only at H
    have HC1 := sqa H
    clear H
    obtain ⟨Ao6, co6, eo6⟩ := Kd.R_slice O5.1
    subst eo6
    have p1 : 0 ≤ (1 : Int) := (by omega)
    have q1 : 1 < (t25.length : Int) := of_decide_eq_true Z16
    obtain ⟨ad1, e1, hx1⟩ := Kd.at_string (Kd.R_reads' O5.1).2.2 1 p1 q1
    cases e1
    (try simp only [show (1 : Int).toNat = 1 from rfl, Nat.reduceMul, Nat.reduceEqDiff, Go.Addr.add, ↓reduceIte] at hx1)
    have qi1 : (1 < t25.length) = True := eq_true (by omega)
    (try rw [show ((1 : Int)).toNat = 1 from rfl] at hx1)
    replace p1 := eq_true p1
    replace q1 := eq_true q1
    go_upto_region 38 with (first | ((with_reducible refine sqc 100 rfl ?_); refine sqvd (some 134) func100 (F5.c kj0 (rdOf ByteArray.empty t25 1) t26 t27 _ A19.1) fun nd => ?_))
    (try simp only [Act.put, List.setIfInBounds_toArray, List.set_cons_zero, List.set_cons_succ])
    go_cut [142] (fun v6 wc => ∃ (kq : Nat) (x1 : Bool), v6 = .bool x1 ∧ Aside0 (F13.j1 kq t26 x1 t621 t622 t1 a0_0 a0_1 = some (r1, r2, r3, r4)) ∧ Aside0 (kq ≤ kj0) ∧ Aside0 (Kd.Q k31 31 wc w.heap.size (fun k_ => k_ ≠ gb638) (.slice Ao0 t1.length co0) t1) ∧ Aside0 (wc.heap[gb618]? = some (.cells #[.int .i64 a0_0, .int .i64 a0_1, (.slice A0_2 l0_2.length c0_2)] 34 (0, 0))) ∧ Aside0 (wc.heap[gb619]? = some (.cells #[.int .i64 0, .int .i64 0, (.slice none 0 0)] 34 (0, 0))) ∧ Aside0 (wc.heap[g0]? = some (.cells #[.int .i64 t621, .int .i64 t622, (.slice Ao0 t1.length co0)] 34 (0, 0))) ∧ Aside0 (wc.heap[gb630]? = some (.cells #[.int .i64 t627, .string t628] 38 (0, 0))) ∧ Aside0 (wc.heap[gb638]? = some (.cells #[.int .i64 a0_0, .int .i64 a0_1] 31 (0, 0))) ∧ Aside0 (Below w.heap.size w wc))
    case first =>
     have H := HC1.1
     clear HC1
     obtain rfl | rfl := sqt t27
     ·rw [if_pos rfl] at H
      have H' := sqa H
      clear H
      go_wp2
      go_meet
      case rel => exact ⟨_, (decide (t26 < 0)), Z1, H', ⟨by have := HJ0.out; first | omega | exact Nat.le_refl _⟩, ⟨Z40 O6⟩, ⟨sqK B0⟩, ⟨sqK B2⟩, ⟨sqK B9⟩, ⟨sqK B10⟩, ⟨sqK B14⟩, ⟨Z44 E0 E1 E2 E3 E5⟩⟩
     rw [if_neg sqF] at H
     have H' := sqa H
     clear H
     go_wp2
     go_meet
     case rel => exact ⟨_, (true), Z1, H', ⟨by have := HJ0.out; first | omega | exact Nat.le_refl _⟩, ⟨Z40 O6⟩, ⟨sqK B0⟩, ⟨sqK B2⟩, ⟨sqK B9⟩, ⟨sqK B10⟩, ⟨sqK B14⟩, ⟨Z44 E0 E1 E2 E3 E5⟩⟩
    case rest =>
     clear HC1
     obtain ⟨kq, x1, rfl, HA, HJ1, O6, B0, B2, B9, B10, B14, HB⟩ := hcut
     cases kq with
     | zero => exact absurd HA.out (by simp [F13.j1])
     | succ kj1 =>
      have H := HA.out
      clear HA
      simp only [F13.j1] at H
      obtain rfl | rfl := sqt x1
      ·rw [if_pos rfl] at H
       obtain ⟨rfl, rfl, rfl, rfl⟩ := sqO4 H
       have := sqn6 N3 N2 N5 N4 N10 N11
       have := sqn2 N24 N25
       have := sqY3 B9
       have := sqn6 N1 N0 N8 N9 N22 N23
       have := sqY3 B2
       go_wp2
       refine sqE gb619 34 #[.int .i64 t621, .int .i64 t622, .slice Ao0 t1.length co0] (Z59 B2) underlying34 ?_
       exact ⟨_, Z5, Z67 O6 B2, Z44 E0 E1 E2 E3 E5⟩
      rw [if_neg sqF] at H
      obtain ⟨t28, A20, H⟩ := sqD H
      obtain rfl | rfl := sqt t28
      ·rw [if_pos rfl] at H
       obtain ⟨t29, A21, H⟩ := sqD H
       obtain ⟨t30, A22, H⟩ := sqD H
       obtain ⟨rfl, rfl, rfl, rfl⟩ := sqO4 H
       try go_wp2_with (first | ((with_reducible refine sqc 101 rfl ?_); refine sqvd (some 145) func101 (F2.c t26 1 12 true _ A20.1) fun nd => ?_; (try (rw [drewN_self wc]; generalize hq_ : World.drewN wc _ = wc; have n0_ : Aside0 (Kd.Q k31 31 wc w.heap.size (fun k_ => k_ ≠ gb638) (.slice Ao0 t1.length co0) t1) := ⟨by rw [← hq_]; exact (Z40 O6)⟩; have n1_ : Aside0 (wc.heap[gb618]? = some (.cells #[.int .i64 a0_0, .int .i64 a0_1, .slice A0_2 l0_2.length c0_2] 34 (0, 0))) := ⟨Z29 B0⟩; have n2_ : Aside0 (wc.heap[gb619]? = some (.cells #[.int .i64 0, .int .i64 0, .slice none 0 0] 34 (0, 0))) := ⟨Z29 B2⟩; have n3_ : Aside0 (wc.heap[g0]? = some (.cells #[.int .i64 t621, .int .i64 t622, .slice Ao0 t1.length co0] 34 (0, 0))) := ⟨Z29 B9⟩; have n4_ : Aside0 (wc.heap[gb630]? = some (.cells #[.int .i64 t627, .string t628] 38 (0, 0))) := ⟨Z29 B10⟩; have n5_ : Aside0 (wc.heap[gb638]? = some (.cells #[.int .i64 a0_0, .int .i64 a0_1] 31 (0, 0))) := ⟨Z29 B14⟩; have n6_ : Aside0 (Below w.heap.size w wc) := ⟨by rw [← hq_]; exact (Z44 E0 E1 E2 E3 E5)⟩; clear O6 B0 B2 B9 B10 B14 HB hq_; have O6 := n0_; have B0 := n1_; have B2 := n2_; have B9 := n3_; have B10 := n4_; have B14 := n5_; have HB := n6_; clear n0_ n1_ n2_ n3_ n4_ n5_ n6_))))
       replace O6 := sqa (Kd.Q_drew O6.1)
       replace B0 := sqa (blk_drew B0.1)
       replace B2 := sqa (blk_drew B2.1)
       replace B9 := sqa (blk_drew B9.1)
       replace B10 := sqa (blk_drew B10.1)
       replace B14 := sqa (blk_drew B14.1)
       replace HB := sqa (below_drew1 HB.1)
       refine start_ (n := 7) (S := fun w' => w'.cell? ⟨g0, 0, none⟩ = some (.int .i64 t621) ∧ w'.cell? ⟨g0, 1, none⟩ = some (.int .i64 t622) ∧ w'.cell? ⟨g0, 2, none⟩ = some (.slice Ao0 t1.length co0) ∧ w'.cell? ⟨gb638, 0, none⟩ = some (.int .i64 a0_0) ∧ w'.cell? ⟨gb638, 1, none⟩ = some (.int .i64 a0_1)) (ds := []) #[false, false, false, false, false, false, false] (by kernel_rfl) rfl rfl (sqk2 B9 B14) (fun hHeld => ?_)
       generalize wc.drew = w48 at O6 B0 B2 B9 B10 B14 HB hHeld ⊢
       refine sqPk 2 (some 150) (h := ?_)
       refine sqQk 0 (some 148) hHeld (h := ?_)
       refine sqQk 1 (some 149) hHeld (h := ?_)
       refine sq1k 3 (some 151) (h := fun K hK => ?_)
       refine sqg func102 #[.agg #[.int .i64 a0_0, .int .i64 a0_1], .int .i64 t26] ?_
       with_reducible refine (F81.c kj1 a0_0 a0_1 t26 t29 _ A21.1).mono ?_
       rintro e w49 ⟨rfl, hb⟩
       refine ⟨_, rfl, ?_⟩
       replace O6 := sqa (Kd.Q_below (Z40 O6) hb)
       replace B0 := sqT B0 hb
       replace B2 := sqT B2 hb
       replace B9 := sqT B9 hb
       replace B10 := sqT B10 hb
       replace B14 := sqT B14 hb
       replace HB := sqa (below_step (Z44 E0 E1 E2 E3 E5) hb)
       refine hK.out _ _ (sqk2 B9 B14) (fun hHeld => ?_)
       clear hK K
       refine sqN (some 151) ?_
       refine sq1k 4 (some 152) (h := fun K hK => ?_)
       refine sqg func93 #[.int .i64 t29] ?_
       with_reducible refine (F4.c kj1 t29 t30 _ A22.1).mono ?_
       rintro e w50 ⟨rfl, hb⟩
       refine ⟨_, rfl, ?_⟩
       replace O6 := sqa (Kd.Q_below (Z40 O6) hb)
       replace B0 := sqT B0 hb
       replace B2 := sqT B2 hb
       replace B9 := sqT B9 hb
       replace B10 := sqT B10 hb
       replace B14 := sqT B14 hb
       replace HB := sqa (below_step (Z44 E0 E1 E2 E3 E5) hb)
       refine hK.out _ _ (sqk2 B9 B14) (fun hHeld => ?_)
       clear hK K
       refine sqN (some 152) ?_
       refine sq1k 5 none (h := fun K hK => ?_)
       have := sqY3 B2
       have := sqn6 N0 N5 N9 N23 N1 N4
       have := sqn2 N8 N22
       refine skip_ (w1 := ?_) (by rfl) rfl ?_ ?_
       rotate_left
       ·go_simp
        rfl
       refine hK.out _ _ (sql2 N5 N23 hHeld) (fun hHeld => ?_)
       clear hK K
       refine sqPk 6 (some 5) (h := ?_)
       refine done_ (by kernel_rfl) ?_
       try go_wp2
       refine sqE gb619 34 #[.int .i64 t621, .int .i64 t622, .slice Ao0 t1.length co0] (Z59 B2) underlying34 ?_
       exact ⟨_, Z5, Z67 O6 B2, Z44 E0 E1 E2 E3 E5⟩
      rw [if_neg sqF] at H
      obtain ⟨rfl, rfl, rfl, rfl⟩ := sqO4 H
      go_wp2_with (first | ((with_reducible refine sqc 101 rfl ?_); refine sqvd (some 145) func101 (F2.c t26 1 12 false _ A20.1) fun nd => ?_; (try (rw [drewN_self wc]; generalize hq_ : World.drewN wc _ = wc; have n0_ : Aside0 (Kd.Q k31 31 wc w.heap.size (fun k_ => k_ ≠ gb638) (.slice Ao0 t1.length co0) t1) := ⟨by rw [← hq_]; exact (Z40 O6)⟩; have n1_ : Aside0 (wc.heap[gb618]? = some (.cells #[.int .i64 a0_0, .int .i64 a0_1, .slice A0_2 l0_2.length c0_2] 34 (0, 0))) := ⟨Z29 B0⟩; have n2_ : Aside0 (wc.heap[gb619]? = some (.cells #[.int .i64 0, .int .i64 0, .slice none 0 0] 34 (0, 0))) := ⟨Z29 B2⟩; have n3_ : Aside0 (wc.heap[g0]? = some (.cells #[.int .i64 t621, .int .i64 t622, .slice Ao0 t1.length co0] 34 (0, 0))) := ⟨Z29 B9⟩; have n4_ : Aside0 (wc.heap[gb630]? = some (.cells #[.int .i64 t627, .string t628] 38 (0, 0))) := ⟨Z29 B10⟩; have n5_ : Aside0 (wc.heap[gb638]? = some (.cells #[.int .i64 a0_0, .int .i64 a0_1] 31 (0, 0))) := ⟨Z29 B14⟩; have n6_ : Aside0 (Below w.heap.size w wc) := ⟨by rw [← hq_]; exact (Z44 E0 E1 E2 E3 E5)⟩; clear O6 B0 B2 B9 B10 B14 HB hq_; have O6 := n0_; have B0 := n1_; have B2 := n2_; have B9 := n3_; have B10 := n4_; have B14 := n5_; have HB := n6_; clear n0_ n1_ n2_ n3_ n4_ n5_ n6_)); have := sqn6 N3 N2 N5 N4 N10 N11; have := sqn2 N24 N25; have := sqY3 B9; have := sqn6 N1 N0 N8 N9 N22 N23; have := sqY3 B2))
      refine sqE gb619 34 #[.int .i64 t621, .int .i64 t622, .slice Ao0 t1.length co0] (Z59 B2) underlying34 ?_
      exact ⟨_, Z5, Z67 O6 B2, Z44 E0 E1 E2 E3 E5⟩
 rw [if_neg sqF] at H
 obtain ⟨rfl, rfl, rfl, rfl⟩ := sqO4 H
 go_wp2_with fail
 refine sqE gb619 34 #[.int .i64 0, .int .i64 0, .slice none 0 0] (Z46 B2) underlying34 ?_
 exact ⟨_, Z5, Kd.Q_of_R Z47, sqB2 HB E0 E1⟩

end Go.Proofs.YtofmlbgfcohhoaaGreatDoor.PFnDeskSay
