import Derived.Test.YtofmlbgfcohhoaaGreatDoorPFnDeskSayx7
import Derived.Test.YtofmlbgfcohhoaaGreatDoorPFnDeskSayx11
set_option maxHeartbeats 8000000
set_option maxRecDepth 100000
namespace Go.Proofs.YtofmlbgfcohhoaaGreatDoor.PFnDeskSay
open Go.RowKit Go.Proofs.YtofmlbgfcohhoaaGreatDoorW.PrintWords Go.Proofs.YtofmlbgfcohhoaaGreatDoorW.PrintLast Go.Proofs.YtofmlbgfcohhoaaGreatDoorW.PrintMore Go.Proofs.YtofmlbgfcohhoaaGreatDoor.Lib Go.Proofs.Tryz
attribute [local go_sem] max2_int min2_int max_two min_two max_three min_three max_four min_four   -- for this text's walks alone
set_option linter.unusedVariables false
set_option linter.unusedSimpArgs false

def F43.f (k : Nat) (a0_0 : Int) (a0_1 : Int) (l0_2 : List (S31)) (a1 : ByteArray) : Option (Int × Int × (List (S31)) × ByteArray) := (F82.f k a1).bind fun bt0 => (if bt0.2.2 = true then ((F31.f k a0_0 a0_1 l0_2 bt0.1 bt0.2.1).bind fun bt1 => (if bt1.2.2.2 = true then (some (bt1.1, bt1.2.1, bt1.2.2.1, (⟨#[111, 107]⟩ : ByteArray))) else (some (bt1.1, bt1.2.1, bt1.2.2.1, (⟨#[110, 111, 116]⟩ : ByteArray))))) else ((F12.f a0_0 a0_1 l0_2).bind fun bt2 => ((F9.f k a0_0 a0_1 a1).bind fun t0 => (some (bt2.1, bt2.2.1, bt2.2.2, t0)))))
def F43.T7 : Bool × List (List Nat × List Nat) := (true, [([], []), ([0], [0]), ([], []), ([2], [2]), ([], []), ([3, 4, 1], [3, 4]), ([1, 5, 0, 1], [1]), ([5, 6, 0, 1, 2, 3, 4, 5, 6], [5])])
def F43.B7 : List Nat := [0, 1, 0, 4, 0, 31, 63, 127]
theorem F43.tab7 : rtab .any (opsOf f87 7) = F43.T7 := by kernel_rfl
theorem F43.bits7 : waitsOk F43.T7.2 F43.B7 = true := by kernel_rfl
theorem F43.c (k : Nat) (a0_0 : Int) (a0_1 : Int) (A0_2 : Option Addr) (c0_2 : Nat) (l0_2 : List (S31)) (a1 : ByteArray) (r1 : Int) (r2 : Int) (r3 : List (S31)) (r4 : ByteArray) (w : World) (hG : Glob w) (hr0_2 : Kd.C k31 w A0_2 l0_2.length l0_2) (hc0_2 : l0_2.length ≤ c0_2) (H : F43.f k a0_0 a0_1 l0_2 a1 = some (r1, r2, r3, r4)) :
  Calls prog 87 #[.agg #[.int .i64 a0_0, .int .i64 a0_1, .slice A0_2 l0_2.length c0_2], .string a1] w fun e w' => ∃ v2_ : Value, e = .returned (.tuple #[.agg #[.int .i64 r1, .int .i64 r2, v2_], .string r4]) ∧ Kd.R k31 31 w' w.heap.size (fun _ => True) v2_ r3 ∧ Below w.heap.size w w' := by
 have hu34 := underlying34
 have hu38 := underlying38
 have hu31 := underlying31
 have HR0_2 := sqa hr0_2
 have HC0_2 := sqa hc0_2
 clear hr0_2 hc0_2
 have HB := sqh w
 unfold F43.f at H
 obtain ⟨⟨t350, t0, t1⟩, A3, H⟩ := sqD H
 try dsimp only at H
 go_enter func87, ntmps87
 go_upto_if 15 with (first | ((with_reducible refine sqd 2 rfl ?_); refine sqx0 w (sqB HB) #[.int .i64 a0_0, .int .i64 a0_1, .slice A0_2 l0_2.length c0_2] 34 fun g0 w7 B0 E0 HB => ?_) | ((with_reducible refine sqd 4 rfl ?_); refine sqx1 w (sqB1 HB E0) #[.int .i64 0, .int .i64 0, .slice none 0 0] 34 B0 fun g1 w8 B2 E1 HB N0 N1 B0 => ?_) | ((with_reducible refine sqc 85 rfl ?_); refine sqv (some 12) func85 (args := #[.string a1]) (F82.c k a1 t350 t0 t1 _ (Z10 E0 E1) A3.1) fun w9 hb => ?_; obtain ⟨B0, B2⟩ := sqT2 hb B0 B2; replace HB := sqS (sqB2 HB E0 E1) hb) | ((with_reducible refine sqd 6 rfl ?_); refine sqx w (sqB2 HB E0 E1) #[.int .i64 0, .string (⟨#[]⟩ : ByteArray)] 38 fun g2 hg w0 B9 E2 HB hb => ?_; obtain ⟨N2, N3⟩ := sqM hg B0; replace B0 := sqT B0 hb; obtain ⟨N4, N5⟩ := sqM hg B2; replace B2 := sqT B2 hb; clear hb hg; have := sqn4 N3 N2 N5 N4; have := sqY2 B9; have := sqn2 N0 N1; have := sqY3 B0))
 obtain rfl | rfl := sqt t1
 ·rw [if_pos rfl] at H
  obtain ⟨⟨t354, t355, t2, t3⟩, A5, H⟩ := sqD H
  try dsimp only at H
  go_upto_if 23 with (first | ((with_reducible refine sqc 61 rfl ?_); refine sqvo (some 19) func61 (args := #[.agg #[.int .i64 a0_0, .int .i64 a0_1, .slice A0_2 l0_2.length c0_2], .agg #[.int .i64 t350, .string t0]]) (F31.c k a0_0 a0_1 _ _ l0_2 t350 t0 t354 t355 t2 t3 _ (Glob.below hG (sqB3 HB E0 E1 E2)) (Kd.C_below HR0_2.1 (sqB3 HB E0 E1 E2)) Z36 A5.1) fun v0 w2 ho0 hb => ?_; have O0 := sqL ho0 (sqB3 HB E0 E1 E2); replace B0 := sqH N2 B0 hb; replace B2 := sqH N4 B2 hb; replace B9 := sqa (blk_below (g := g2) (o := .cells #[.int .i64 t350, .string t0] 38 (0, 0)) (Z152 B9) hb); replace HB := sqS (sqB3 HB E0 E1 E2) hb; (try clear ho0)) | ((with_reducible refine sqd 8 rfl ?_); refine sqx w (sqB3 HB E0 E1 E2) #[.int .i64 0, .int .i64 0, .slice none 0 0] 34 fun g3 hg w3 B10 E3 HB hb => ?_; replace O0 := sqU O0 hb; obtain ⟨N6, N7⟩ := sqM hg B0; replace B0 := sqT B0 hb; obtain ⟨N8, N9⟩ := sqM hg B2; replace B2 := sqT B2 hb; obtain ⟨N10, N11⟩ := sqM hg B9; replace B9 := sqT B9 hb; clear hb hg; obtain ⟨Ao0, co0, eo0⟩ := Kd.R_slice O0.1; subst eo0; have := sqn6 N7 N6 N9 N8 N11 N10; have := sqY3 B10; have := sqY3 B2))
  obtain rfl | rfl := sqt t3
  ·rw [if_pos rfl] at H
   obtain ⟨rfl, rfl, rfl, rfl⟩ := sqO4 H
   go_wp2_with fail
   refine sqE g1 34 #[.int .i64 t354, .int .i64 t355, .slice Ao0 t2.length co0] (Z153 N8 B2) underlying34 ?_
   exact ⟨_, Z5, by (with_reducible repeat (first | apply Kd.R_alloc | apply Kd.R_drewN | apply Kd.R_drew)); exact Kd.R_mono (Kd.R_far (p := ⟨g1, 2, none⟩) (Kd.R_far (p := ⟨g1, 1, none⟩) (Kd.R_far (p := ⟨g1, 0, none⟩) (Kd.R_far (p := ⟨g3, 2, none⟩) (Kd.R_far (p := ⟨g3, 1, none⟩) (Kd.R_far (p := ⟨g3, 0, none⟩) (Kd.R_types (Kd.R_types O0.1 B10.1 (by decide)) B2.1 (by decide)) (fun _ hk => hk.1.2) (.int .i64 t354)) (fun _ hk => hk.1.2) (.int .i64 t355)) (fun _ hk => hk.1.2) (.slice Ao0 t2.length co0)) (fun _ hk => hk.2) (.int .i64 t354)) (fun _ hk => hk.2) (.int .i64 t355)) (fun _ hk => hk.2) (.slice Ao0 t2.length co0)) (fun _ hk => trivial), sqB4 HB E0 E1 E2 E3⟩
  rw [if_neg sqF] at H
  obtain ⟨rfl, rfl, rfl, rfl⟩ := sqO4 H
  go_wp2_with fail
  refine sqE g1 34 #[.int .i64 t354, .int .i64 t355, .slice Ao0 t2.length co0] (Z153 N8 B2) underlying34 ?_
  exact ⟨_, Z5, by (with_reducible repeat (first | apply Kd.R_alloc | apply Kd.R_drewN | apply Kd.R_drew)); exact Kd.R_mono (Kd.R_far (p := ⟨g1, 2, none⟩) (Kd.R_far (p := ⟨g1, 1, none⟩) (Kd.R_far (p := ⟨g1, 0, none⟩) (Kd.R_far (p := ⟨g3, 2, none⟩) (Kd.R_far (p := ⟨g3, 1, none⟩) (Kd.R_far (p := ⟨g3, 0, none⟩) (Kd.R_types (Kd.R_types O0.1 B10.1 (by decide)) B2.1 (by decide)) (fun _ hk => hk.1.2) (.int .i64 t354)) (fun _ hk => hk.1.2) (.int .i64 t355)) (fun _ hk => hk.1.2) (.slice Ao0 t2.length co0)) (fun _ hk => hk.2) (.int .i64 t354)) (fun _ hk => hk.2) (.int .i64 t355)) (fun _ hk => hk.2) (.slice Ao0 t2.length co0)) (fun _ hk => trivial), sqB4 HB E0 E1 E2 E3⟩
 rw [if_neg sqF] at H
 obtain ⟨⟨t4, t5, t6⟩, A0, H⟩ := sqD H
 try dsimp only at H
 obtain ⟨t7, A1, H⟩ := sqD H
 obtain ⟨rfl, rfl, rfl, rfl⟩ := sqO4 H
 try go_wp2_with fail
 obtain ⟨w4, hw_⟩ : ∃ w_, (w0.setCell ⟨g2, 0, none⟩ (.int .i64 t350)).setCell ⟨g2, 1, none⟩ (.string t0) = w_ := ⟨_, rfl⟩
 replace B0 := sqJ hw_ N2 B0
 replace B2 := sqJ hw_ N4 B2
 replace B9 : Aside0 (w4.heap[g2]? = some (.cells #[.int .i64 t350, .string t0] 38 (0, 0))) := by rw [← hw_]; exact ⟨Z152 B9⟩
 replace HB : Aside0 (Below w.heap.size w w4) := by rw [← hw_]; exact ⟨sqB3 HB E0 E1 E2⟩
 rw [hw_]; clear hw_
 replace B0 := sqa (blk_drew B0.1)
 replace B2 := sqa (blk_drew B2.1)
 replace B9 := sqa (blk_drew B9.1)
 replace HB := sqa (below_drew1 HB.1)
 refine start_ (n := 8) (S := fun w' => w'.cell? ⟨g0, 0, none⟩ = some (.int .i64 a0_0) ∧ w'.cell? ⟨g0, 1, none⟩ = some (.int .i64 a0_1) ∧ w'.cell? ⟨g0, 2, none⟩ = some (.slice A0_2 l0_2.length c0_2)) (ds := []) #[false, false, false, false, false, false, false, false] (by kernel_rfl) rfl rfl (sqk1 B0) (fun hHeld => ?_); refine with_tabW F43.tab7 F43.bits7 (fun HT_ HW_ => ?_)
 generalize w4.drew = w5 at B0 B2 B9 HB hHeld ⊢
 refine sqP 2 (some 28) (h := ?_)
 refine sqP 4 (some 30) (h := ?_)
 refine sqQ 0 (some 26) hHeld (h := ?_)
 refine sqQ 3 (some 29) hHeld (h := ?_)
 refine sq1 1 (some 27) (h := fun K hK => ?_)
 refine sqg func76 #[.agg #[.int .i64 a0_0, .int .i64 a0_1, .slice A0_2 l0_2.length c0_2]] ?_
 with_reducible refine (F12.c a0_0 a0_1 _ _ l0_2 t4 t5 t6 _ ?side1 ?side2 A0.1).mono ?_
 (case side1 => exact Z35)
 (case side2 => exact Z36)
 rintro e w6 ⟨v1, rfl, ho0, hb⟩
 refine ⟨_, rfl, ?_⟩
 have O1 := sqL ho0 (sqB3 HB E0 E1 E2)
 replace B0 := sqT B0 hb
 replace B2 := sqT B2 hb
 replace B9 := sqT B9 hb
 replace HB := sqS (sqB3 HB E0 E1 E2) hb
 refine hK.out _ _ (sqk1 B0) (fun hHeld => ?_)
 clear hK K
 refine sqN (some 27) ?_
 refine sq1 5 (some 31) (h := fun K hK => ?_)
 refine sqg func125 #[.agg #[.int .i64 a0_0, .int .i64 a0_1], .string a1] ?_
 with_reducible refine (F9.c k a0_0 a0_1 a1 t7 _ ?sideG A1.1).mono ?_
 (case sideG => exact Glob.below hG (sqB3 HB E0 E1 E2))
 rintro e w53 ⟨rfl, hb⟩
 refine ⟨_, rfl, ?_⟩
 replace O1 := sqU O1 hb
 replace B0 := sqT B0 hb
 replace B2 := sqT B2 hb
 replace B9 := sqT B9 hb
 replace HB := sqS (sqB3 HB E0 E1 E2) hb
 obtain ⟨Ao1, co1, eo1⟩ := Kd.R_slice O1.1
 (first | subst eo1 | (injection eo1 with f1_ f2_ f3_; have f4_ := f1_.symm; have f5_ := f3_.symm; clear f1_ f2_ f3_; subst f4_; subst f5_))
 refine hK.out _ _ (sqk1 B0) (fun hHeld => ?_)
 clear hK K
 refine sqN (some 31) ?_
 refine sq1 6 none (h := fun K hK => ?_)
 have := sqY3 B2
 have := sqn4 N0 N5 N1 N4
 refine skip_ (w1 := ?_) (by rfl) rfl ?_ ?_
 rotate_left
 ·go_simp
  rfl
 refine hK.out _ _ (sql1 N0 hHeld) (fun hHeld => ?_)
 clear hK K
 refine sqP 7 (some 5) (h := ?_)
 refine done_ (done_of HT_.out (by kernel_rfl)) ?_
 try go_wp2
 refine sqE g1 34 #[.int .i64 t4, .int .i64 t5, .slice Ao1 t6.length co1] (by refine sqPut (cs := #[.int .i64 t4, .int .i64 t5, .slice none 0 0]) ?_ 2; refine sqPut (cs := #[.int .i64 t4, .int .i64 0, .slice none 0 0]) ?_ 1; refine sqPut (cs := #[.int .i64 0, .int .i64 0, .slice none 0 0]) ?_ 0; exact sqK B2) underlying34 ?_
 exact ⟨_, Z5, by (with_reducible repeat (first | apply Kd.R_alloc | apply Kd.R_drewN | apply Kd.R_drew)); exact Kd.R_mono (sqr3 O1.1 B2.1) (fun _ hk => trivial), sqB3 HB E0 E1 E2⟩

def F65.f (k : Nat) (a0_0 : Int) (a0_1 : Int) (l0_2 : List (S31)) (a1 : ByteArray) : Option (Int × Int × (List (S31)) × ByteArray) := (F38.f k a0_0 a0_1 l0_2).bind fun t0 => (if t0 = true then ((F43.f k a0_0 a0_1 l0_2 a1).bind fun bt0 => (some (bt0.1, bt0.2.1, bt0.2.2.1, bt0.2.2.2))) else (some (0, 0, ([] : List (S31)), (⟨#[]⟩ : ByteArray))))
theorem F65.c (k : Nat) (a0_0 : Int) (a0_1 : Int) (A0_2 : Option Addr) (c0_2 : Nat) (l0_2 : List (S31)) (a1 : ByteArray) (r1 : Int) (r2 : Int) (r3 : List (S31)) (r4 : ByteArray) (w : World) (hG : Glob w) (hr0_2 : Kd.C k31 w A0_2 l0_2.length l0_2) (hc0_2 : l0_2.length ≤ c0_2) (H : F65.f k a0_0 a0_1 l0_2 a1 = some (r1, r2, r3, r4)) :
  Calls prog 40 #[.agg #[.int .i64 a0_0, .int .i64 a0_1, .slice A0_2 l0_2.length c0_2], .string a1] w fun e w' => ∃ v2_ : Value, e = .returned (.tuple #[.agg #[.int .i64 r1, .int .i64 r2, v2_], .string r4]) ∧ Kd.R k31 31 w' w.heap.size (fun _ => True) v2_ r3 ∧ Below w.heap.size w w' := by
 have hu34 := underlying34
 have HR0_2 := sqa hr0_2
 have HC0_2 := sqa hc0_2
 clear hr0_2 hc0_2
 have HB := sqh w
 unfold F65.f at H
 obtain ⟨t0, A3, H⟩ := sqD H
 obtain rfl | rfl := sqt t0
 ·rw [if_pos rfl] at H
  obtain ⟨⟨t1, t2, t3, t4⟩, A5, H⟩ := sqD H
  try dsimp only at H
  obtain ⟨rfl, rfl, rfl, rfl⟩ := sqO4 H
  go_enter func40, ntmps40
  go_wp2_with (first | ((with_reducible refine sqd 2 rfl ?_); refine sqx0 w (sqB HB) #[.int .i64 a0_0, .int .i64 a0_1, .slice A0_2 l0_2.length c0_2] 34 fun g0 w6 B0 E0 HB => ?_) | ((with_reducible refine sqd 4 rfl ?_); refine sqx1 w (sqB1 HB E0) #[.int .i64 0, .int .i64 0, .slice none 0 0] 34 B0 fun g1 w7 B2 E1 HB N0 N1 B0 => ?_; have := sqn2 N0 N1; have := sqY3 B0) | ((with_reducible refine sqc 60 rfl ?_); refine sqv (some 7) func60 (args := #[.agg #[.int .i64 a0_0, .int .i64 a0_1, .slice A0_2 l0_2.length c0_2]]) (F38.c k a0_0 a0_1 _ _ l0_2 true _ Z35 Z36 A3.1) fun w0 hb => ?_; obtain ⟨B0, B2⟩ := sqT2 hb B0 B2; replace HB := sqS (sqB2 HB E0 E1) hb; have := sqY3 B0) | ((with_reducible refine sqc 87 rfl ?_); refine sqvo (some 12) func87 (args := #[.agg #[.int .i64 a0_0, .int .i64 a0_1, .slice A0_2 l0_2.length c0_2], .string a1]) (F43.c k a0_0 a0_1 _ _ l0_2 a1 t1 t2 t3 t4 _ (Z10 E0 E1) Z35 Z36 A5.1) fun v0 w1 ho0 hb => ?_; have O0 := sqL ho0 (sqB2 HB E0 E1); obtain ⟨B0, B2⟩ := sqT2 hb B0 B2; replace HB := sqS (sqB2 HB E0 E1) hb; (try clear ho0); have := sqY3 B2; obtain ⟨Ao0, co0, eo0⟩ := Kd.R_slice O0.1; subst eo0))
  refine sqE g1 34 #[.int .i64 t1, .int .i64 t2, .slice Ao0 t3.length co0] (by refine sqPut (cs := #[.int .i64 t1, .int .i64 t2, .slice none 0 0]) ?_ 2; refine sqPut (cs := #[.int .i64 t1, .int .i64 0, .slice none 0 0]) ?_ 1; refine sqPut (cs := #[.int .i64 0, .int .i64 0, .slice none 0 0]) ?_ 0; exact sqK B2) underlying34 ?_
  exact ⟨_, Z5, by (with_reducible repeat (first | apply Kd.R_alloc | apply Kd.R_drewN | apply Kd.R_drew)); exact Kd.R_mono (sqr3 O0.1 B2.1) (fun _ hk => trivial), sqB2 HB E0 E1⟩
 rw [if_neg sqF] at H
 obtain ⟨rfl, rfl, rfl, rfl⟩ := sqO4 H
 go_enter func40, ntmps40
 go_wp2_with (first | ((with_reducible refine sqd 2 rfl ?_); refine sqx0 w (sqB HB) #[.int .i64 a0_0, .int .i64 a0_1, .slice A0_2 l0_2.length c0_2] 34 fun g0 w2 B0 E0 HB => ?_) | ((with_reducible refine sqd 4 rfl ?_); refine sqx1 w (sqB1 HB E0) #[.int .i64 0, .int .i64 0, .slice none 0 0] 34 B0 fun g1 w3 B2 E1 HB N0 N1 B0 => ?_; have := sqn2 N0 N1; have := sqY3 B0) | ((with_reducible refine sqc 60 rfl ?_); refine sqv (some 7) func60 (args := #[.agg #[.int .i64 a0_0, .int .i64 a0_1, .slice A0_2 l0_2.length c0_2]]) (F38.c k a0_0 a0_1 _ _ l0_2 false _ Z35 Z36 A3.1) fun w4 hb => ?_; obtain ⟨B0, B2⟩ := sqT2 hb B0 B2; replace HB := sqS (sqB2 HB E0 E1) hb; have := sqY3 B2))
 refine sqE g1 34 #[.int .i64 0, .int .i64 0, .slice none 0 0] (Z46 B2) underlying34 ?_
 exact ⟨_, Z5, Z47, sqB2 HB E0 E1⟩

def F40.f (a0_0 : Int) (a0_1 : Int) (l0_2 : List (S31)) : Option (Int × Int × (List (S31))) := (some (([] : List (S31)) : List (S31))).bind fun y0 => (if y0.length + l0_2.length < 8796093022208 then (some (a0_0, a0_1, (y0 ++ l0_2))) else (none))
def F40.T1 : Bool × List (List Nat × List Nat) := (true, [([], []), ([0], [0]), ([], []), ([], []), ([3], [3]), ([2, 4], [2, 4]), ([1, 5], [1, 5]), ([6, 5, 0, 1, 2, 3, 4, 5, 6], [6])])
def F40.B1 : List Nat := [0, 1, 0, 0, 8, 28, 63, 127]
theorem F40.tab1 : rtab .any (opsOf f56 1) = F40.T1 := by kernel_rfl
theorem F40.bits1 : waitsOk F40.T1.2 F40.B1 = true := by kernel_rfl
theorem F40.c (a0_0 : Int) (a0_1 : Int) (A0_2 : Option Addr) (c0_2 : Nat) (l0_2 : List (S31)) (r1 : Int) (r2 : Int) (r3 : List (S31)) (w : World) (hr0_2 : Kd.C k31 w A0_2 l0_2.length l0_2) (hc0_2 : l0_2.length ≤ c0_2) (H : F40.f a0_0 a0_1 l0_2 = some (r1, r2, r3)) :
  Calls prog 56 #[.agg #[.int .i64 a0_0, .int .i64 a0_1, .slice A0_2 l0_2.length c0_2]] w fun e w' => ∃ v2_ : Value, e = .returned (.agg #[.int .i64 r1, .int .i64 r2, v2_]) ∧ Kd.R k31 31 w' w.heap.size (fun _ => True) v2_ r3 ∧ Below w.heap.size w w' := by
 have hu34 := underlying34
 have hu31 := underlying31
 have HR0_2 := sqa hr0_2
 have HC0_2 := sqa hc0_2
 clear hr0_2 hc0_2
 have HB := sqh w
 unfold F40.f at H
 obtain ⟨y0, hy0⟩ : ∃ y_ : List (S31), y_ = (([] : List (S31))) := ⟨_, rfl⟩
 replace H : (if y0.length + l0_2.length < 8796093022208 then (some (a0_0, a0_1, (y0 ++ l0_2))) else (none)) = some (r1, r2, r3) := sqW hy0 H
 have Ny0 := sqa hy0
 clear hy0
 obtain ⟨c2, H⟩ := sqI H
 have LMc2 := sqa c2
 clear c2
 obtain ⟨y1, hy1⟩ : ∃ y_ : List (S31), y_ = (y0 ++ l0_2) := ⟨_, rfl⟩
 replace H : (some (a0_0, a0_1, y1)) = some (r1, r2, r3) := sqW hy1 H
 have Ny1 := sqa hy1
 clear hy1
 obtain ⟨rfl, rfl, rfl⟩ := sqO3 H
 go_enter func56, ntmps56
 try go_wp2_with (first | ((with_reducible refine sqd 1 rfl ?_); refine sqx0 w (sqB HB) #[.int .i64 a0_0, .int .i64 a0_1, .slice A0_2 l0_2.length c0_2] 34 fun g0 w3 B0 E0 HB => ?_) | ((with_reducible refine sqd 2 rfl ?_); refine sqx1 w (sqB1 HB E0) #[.int .i64 0, .int .i64 0, .slice none 0 0] 34 B0 fun g1 w4 B2 E1 HB N0 N1 B0 => ?_))
 replace B0 := sqa (blk_drew B0.1)
 replace B2 := sqa (blk_drew B2.1)
 replace HB := sqa (below_drew1 HB.1)
 refine start_ (n := 8) (S := fun w' => w'.cell? ⟨g0, 0, none⟩ = some (.int .i64 a0_0) ∧ w'.cell? ⟨g0, 1, none⟩ = some (.int .i64 a0_1) ∧ w'.cell? ⟨g0, 2, none⟩ = some (.slice A0_2 l0_2.length c0_2)) (ds := []) #[false, false, false, false, false, false, false, false] (by kernel_rfl) rfl rfl (sqk1 B0) (fun hHeld => ?_); refine with_tabW F40.tab1 F40.bits1 (fun HT_ HW_ => ?_)
 generalize w4.drew = w5 at B0 B2 HB hHeld ⊢
 refine sqP 0 (some 3) (h := ?_)
 refine sqP 3 (some 6) (h := ?_)
 refine sqQ 1 (some 4) hHeld (h := ?_)
 refine sqQ 4 (some 7) hHeld (h := ?_)
 refine sq1 2 (some 5) (h := fun K hK => ?_)
 refine Kd.R_lit_step k31 _ 31 ?hg (N := 5) ?hd (xs := ([] : List (S31))) (inner := []) (ok := fun _ => True) (okp := fun _ => True) ?hr ?hp (fun _ hk => hk) trivial (Below.refl _ _) (Nat.le_refl _) (by simp) ?_; (case hd => rfl); (case hg => rfl); (case hr => exact Z17); (case hp => exact Z24)
 intro v0 w6 ho7 hb hg_ hnew_
 clear hg_ hnew_
 (first | rw [← Ny0.out] at ho7 | (simp only [Int.reduceToNat] at ho7; rw [← Ny0.out] at ho7))
 have O0 := sqL ho7 (sqB2 HB E0 E1)
 replace B0 := sqT B0 hb
 replace B2 := sqT B2 hb
 replace HB := sqS (sqB2 HB E0 E1) hb
 clear hb ho7
 refine hK.out _ _ (sqk1 B0) (fun hHeld => ?_)
 clear hK K
 refine sqN (some 5) ?_
 refine sq1 5 (some 8) (h := fun K hK => ?_)
 refine Kd.R_append_rows_step k31 (w0 := w) w.heap.size (by rfl) (.tmp 5) (.tmp 7) 32 31 (.agg #[(.int .i64 0), (.int .i64 0)]) 16 rfl underlying32 info31 rfl (by decide) (by omega) v0 y0 l0_2 _ _ _ (fun _ => True) (fun _ => False) rfl rfl ?aO ?aR (fun _ _ h => h) (fun _ h => h.elim) ?aF ?aB ?aS ?aL ?_
 (case aR => exact Z35)
 (case aB => exact (sqB2 HB E0 E1))
 (case aF => exact Z25)
 (case aO => exact (sqR O0))
 (case aS => exact (below_size (sqB2 HB E0 E1)))
 (case aL => exact Z2 LMc2)
 intro v1 w8 ho hb hg hat
 rw [← Ny1.out] at ho
 replace B0 := sqa (blk_grown (sqK B0) hg (Kd.R_ne O0.1 B0.1 (by decide)))
 replace B2 := sqa (blk_grown (sqK B2) hg (Kd.R_ne O0.1 B2.1 (by decide)))
 replace HB := sqa (hb)
 have O1 := sqa (ho)
 clear O0
 clear ho hb hg hat
 obtain ⟨Ao9, co9, eo9⟩ := Kd.R_slice O1.1
 (first | subst eo9 | (injection eo9 with f1_ f2_ f3_; have f4_ := f1_.symm; have f5_ := f3_.symm; clear f1_ f2_ f3_; subst f4_; subst f5_))
 refine hK.out _ _ (sqk1 B0) (fun hHeld => ?_)
 clear hK K
 refine sqN (some 8) ?_
 refine sqP 6 (some 9) (h := ?_)
 refine sq1 7 none (h := fun K hK => ?_)
 have := sqY3 B2
 have := sqn2 N0 N1
 refine skip_ (w1 := ?_) (by rfl) rfl ?_ ?_
 rotate_left
 ·go_simp
  rfl
 refine hK.out _ _ (sql1 N0 hHeld) (fun hHeld => ?_)
 clear hK K
 refine done_ (done_of HT_.out (by kernel_rfl)) ?_
 try go_wp2
 refine sqEr g1 34 #[.int .i64 a0_0, .int .i64 a0_1, .slice Ao9 y1.length co9] (Z102 B2) underlying34 ?_
 exact ⟨_, Z5, by (with_reducible repeat (first | apply Kd.R_alloc | apply Kd.R_drewN | apply Kd.R_drew)); exact Kd.R_mono (sqr3 O1.1 B2.1) (fun _ hk => trivial), sqB2 HB E0 E1⟩

def F57.f (k : Nat) (a0_0 : Int) (a0_1 : Int) (a1 : Int) : Option (Int × Int × Bool) := (F0.f k a0_0 a0_1).bind fun t0 => (if t0 = true then ((F2.f a1 (-1000000) 1000000).bind fun t1 => (if t1 = true then ((F0.f k (wrap64 (a0_0 + (wrap64 (a1 * a0_1)))) a0_1).bind fun t2 => (if t2 = true then (some (wrap64 (a0_0 + (wrap64 (a1 * a0_1))), a0_1, true)) else (some (0, 0, false)))) else (some (0, 0, false)))) else (some (0, 0, false)))
theorem F57.c (k : Nat) (a0_0 : Int) (a0_1 : Int) (a1 : Int) (r1 : Int) (r2 : Int) (r3 : Bool) (w : World) (H : F57.f k a0_0 a0_1 a1 = some (r1, r2, r3)) :
  Calls prog 127 #[.agg #[.int .i64 a0_0, .int .i64 a0_1], .int .i64 a1] w fun e w' => e = .returned (.tuple #[.agg #[.int .i64 r1, .int .i64 r2], .bool r3]) ∧ Below w.heap.size w w' := by
 have hu31 := underlying31
 have HB := sqh w
 unfold F57.f at H
 obtain ⟨t0, A3, H⟩ := sqD H
 go_enter func127, ntmps127
 go_upto_region 2 with (first | ((with_reducible refine sqd 2 rfl ?_); refine sqx0 w (sqB HB) #[.int .i64 a0_0, .int .i64 a0_1] 31 fun g0 w9 B0 E0 HB => ?_) | ((with_reducible refine sqd 4 rfl ?_); refine sqx1 w (sqB1 HB E0) #[.int .i64 0, .int .i64 0] 31 B0 fun g1 w0 B2 E1 HB N0 N1 B0 => ?_; have := sqn2 N0 N1; have := sqY2 B0) | ((with_reducible refine sqd 6 rfl ?_); refine sqx w (sqB2 HB E0 E1) #[.int .i64 0, .int .i64 0] 31 fun g2 hg w1 B9 E2 HB hb => ?_; obtain ⟨N2, N3⟩ := sqM hg B0; replace B0 := sqT B0 hb; obtain ⟨N4, N5⟩ := sqM hg B2; replace B2 := sqT B2 hb; clear hb hg; have := sqn4 N3 N2 N5 N4; have := sqY2 B9; have := sqY2 B0))
 obtain rfl | rfl := sqt t0
 ·rw [if_pos rfl] at H
  obtain ⟨t1, A5, H⟩ := sqD H
  obtain rfl | rfl := sqt t1
  ·rw [if_pos rfl] at H
   obtain ⟨t2, A7, H⟩ := sqD H
   obtain rfl | rfl := sqt t2
   ·rw [if_pos rfl] at H
    obtain ⟨rfl, rfl, rfl⟩ := sqO3 H
    go_wp2_with (first | ((with_reducible refine sqc 77 rfl ?_); refine sqv (some 18) func77 (F0.c k a0_0 a0_1 true _ A3.1) fun w2 hb => ?_; replace B0 := sqH N2 B0 hb; replace B2 := sqH N4 B2 hb; replace B9 := sqa (blk_below (g := g2) (o := .cells #[.int .i64 (wrap64 (a0_0 + (wrap64 (a1 * a0_1)))), .int .i64 a0_1] 31 (0, 0)) (Z103 B9) hb); replace HB := sqS (sqB3 HB E0 E1 E2) hb) | (go_at_call 101; (with_reducible refine (F2.c a1 (-1000000) 1000000 true _ A5.1).mono ?_); rintro e w' ⟨rfl, ⟨nd, rfl⟩⟩; (try (rw [drewN_self w2]; generalize hq_ : World.drewN w2 _ = w2; have n0_ : Aside0 (w2.heap[g0]? = some (.cells #[.int .i64 a0_0, .int .i64 a0_1] 31 (0, 0))) := ⟨Z29 B0⟩; have n1_ : Aside0 (w2.heap[g1]? = some (.cells #[.int .i64 0, .int .i64 0] 31 (0, 0))) := ⟨Z29 B2⟩; have n2_ : Aside0 (w2.heap[g2]? = some (.cells #[.int .i64 (wrap64 (a0_0 + (wrap64 (a1 * a0_1)))), .int .i64 a0_1] 31 (0, 0))) := ⟨Z29 B9⟩; have n3_ : Aside0 (Below w.heap.size w w2) := ⟨by rw [← hq_]; exact (sqB3 HB E0 E1 E2)⟩; clear B0 B2 B9 HB hq_; have B0 := n0_; have B2 := n1_; have B9 := n2_; have HB := n3_; clear n0_ n1_ n2_ n3_)); have hcz0 : w2.cell? ⟨g2, 0, none⟩ = some (.int .i64 (wrap64 (a0_0 + (wrap64 (a1 * a0_1))))) := (blk_cell B9.1 0).trans rfl; have hcz1 := sqZ B9 1 (.int .i64 a0_1); have hfz0 := blk_frozen B9.1 0; have hfz1 := blk_frozen B9.1 1) | (go_at_call 77; (with_reducible refine (F0.c k (wrap64 (a0_0 + (wrap64 (a1 * a0_1)))) a0_1 true _ A7.1).mono ?_); rintro e w3 ⟨rfl, hb⟩; obtain ⟨B0, B2, B9⟩ := sqT3 hb B0 B2 B9; replace HB := sqS (sqB3 HB E0 E1 E2) hb; have hcz2 : w3.cell? ⟨g2, 0, none⟩ = some (.int .i64 (wrap64 (a0_0 + (wrap64 (a1 * a0_1))))) := (blk_cell B9.1 0).trans rfl; have hcz3 := sqZ B9 1 (.int .i64 a0_1); have hfz2 := blk_frozen B9.1 0; have hfz3 := blk_frozen B9.1 1; have := sqY2 B2))
    refine sqE g1 31 #[.int .i64 (wrap64 (a0_0 + (wrap64 (a1 * a0_1)))), .int .i64 a0_1] (Z103 B2) underlying31 ?_
    exact ⟨Z5, sqB3 HB E0 E1 E2⟩
   rw [if_neg sqF] at H
   obtain ⟨rfl, rfl, rfl⟩ := sqO3 H
   go_wp2_with (first | ((with_reducible refine sqc 77 rfl ?_); refine sqv (some 18) func77 (F0.c k a0_0 a0_1 true _ A3.1) fun w4 hb => ?_; replace B0 := sqH N2 B0 hb; replace B2 := sqH N4 B2 hb; replace B9 := sqa (blk_below (g := g2) (o := .cells #[.int .i64 (wrap64 (a0_0 + (wrap64 (a1 * a0_1)))), .int .i64 a0_1] 31 (0, 0)) (Z103 B9) hb); replace HB := sqS (sqB3 HB E0 E1 E2) hb) | (go_at_call 101; (with_reducible refine (F2.c a1 (-1000000) 1000000 true _ A5.1).mono ?_); rintro e w' ⟨rfl, ⟨nd, rfl⟩⟩; (try (rw [drewN_self w4]; generalize hq_ : World.drewN w4 _ = w4; have n0_ : Aside0 (w4.heap[g0]? = some (.cells #[.int .i64 a0_0, .int .i64 a0_1] 31 (0, 0))) := ⟨Z29 B0⟩; have n1_ : Aside0 (w4.heap[g1]? = some (.cells #[.int .i64 0, .int .i64 0] 31 (0, 0))) := ⟨Z29 B2⟩; have n2_ : Aside0 (w4.heap[g2]? = some (.cells #[.int .i64 (wrap64 (a0_0 + (wrap64 (a1 * a0_1)))), .int .i64 a0_1] 31 (0, 0))) := ⟨Z29 B9⟩; have n3_ : Aside0 (Below w.heap.size w w4) := ⟨by rw [← hq_]; exact (sqB3 HB E0 E1 E2)⟩; clear B0 B2 B9 HB hq_; have B0 := n0_; have B2 := n1_; have B9 := n2_; have HB := n3_; clear n0_ n1_ n2_ n3_)); have hcz4 : w4.cell? ⟨g2, 0, none⟩ = some (.int .i64 (wrap64 (a0_0 + (wrap64 (a1 * a0_1))))) := (blk_cell B9.1 0).trans rfl; have hcz5 := sqZ B9 1 (.int .i64 a0_1); have hfz4 := blk_frozen B9.1 0; have hfz5 := blk_frozen B9.1 1) | (go_at_call 77; (with_reducible refine (F0.c k (wrap64 (a0_0 + (wrap64 (a1 * a0_1)))) a0_1 false _ A7.1).mono ?_); rintro e w5 ⟨rfl, hb⟩; obtain ⟨B0, B2, B9⟩ := sqT3 hb B0 B2 B9; replace HB := sqS (sqB3 HB E0 E1 E2) hb; have := sqY2 B2))
   refine sqE g1 31 #[.int .i64 0, .int .i64 0] (Z12 B2) underlying31 ?_
   exact ⟨Z5, sqB3 HB E0 E1 E2⟩
  rw [if_neg sqF] at H
  obtain ⟨rfl, rfl, rfl⟩ := sqO3 H
  go_wp2_with (first | ((with_reducible refine sqc 77 rfl ?_); refine sqv (some 18) func77 (F0.c k a0_0 a0_1 true _ A3.1) fun w6 hb => ?_; replace B0 := sqH N2 B0 hb; replace B2 := sqH N4 B2 hb; replace B9 := sqa (blk_below (g := g2) (o := .cells #[.int .i64 (wrap64 (a0_0 + (wrap64 (a1 * a0_1)))), .int .i64 a0_1] 31 (0, 0)) (Z103 B9) hb); replace HB := sqS (sqB3 HB E0 E1 E2) hb) | (go_at_call 101; (with_reducible refine (F2.c a1 (-1000000) 1000000 false _ A5.1).mono ?_); rintro e w' ⟨rfl, ⟨nd, rfl⟩⟩; (try (rw [drewN_self w6]; generalize hq_ : World.drewN w6 _ = w6; have n0_ : Aside0 (w6.heap[g0]? = some (.cells #[.int .i64 a0_0, .int .i64 a0_1] 31 (0, 0))) := ⟨Z29 B0⟩; have n1_ : Aside0 (w6.heap[g1]? = some (.cells #[.int .i64 0, .int .i64 0] 31 (0, 0))) := ⟨Z29 B2⟩; have n2_ : Aside0 (w6.heap[g2]? = some (.cells #[.int .i64 (wrap64 (a0_0 + (wrap64 (a1 * a0_1)))), .int .i64 a0_1] 31 (0, 0))) := ⟨Z29 B9⟩; have n3_ : Aside0 (Below w.heap.size w w6) := ⟨by rw [← hq_]; exact (sqB3 HB E0 E1 E2)⟩; clear B0 B2 B9 HB hq_; have B0 := n0_; have B2 := n1_; have B9 := n2_; have HB := n3_; clear n0_ n1_ n2_ n3_)); have := sqY2 B2))
  refine sqE g1 31 #[.int .i64 0, .int .i64 0] (Z12 B2) underlying31 ?_
  exact ⟨Z5, sqB3 HB E0 E1 E2⟩
 rw [if_neg sqF] at H
 obtain ⟨rfl, rfl, rfl⟩ := sqO3 H
 go_wp2_with (first | ((with_reducible refine sqc 77 rfl ?_); refine sqv (some 18) func77 (F0.c k a0_0 a0_1 false _ A3.1) fun w7 hb => ?_; replace B0 := sqH N2 B0 hb; replace B2 := sqH N4 B2 hb; replace B9 := sqa (blk_below (g := g2) (o := .cells #[.int .i64 (wrap64 (a0_0 + (wrap64 (a1 * a0_1)))), .int .i64 a0_1] 31 (0, 0)) (Z103 B9) hb); replace HB := sqS (sqB3 HB E0 E1 E2) hb; have := sqY2 B2))
 refine sqE g1 31 #[.int .i64 0, .int .i64 0] (Z12 B2) underlying31 ?_
 exact ⟨Z5, sqB3 HB E0 E1 E2⟩

end Go.Proofs.YtofmlbgfcohhoaaGreatDoor.PFnDeskSay
