import Derived.Test.YtofmlbgfcohhoaaGreatDoorPFnReadJournalx15
import Derived.Test.YtofmlbgfcohhoaaGreatDoorPFnReadJournalx18
import Derived.Test.YtofmlbgfcohhoaaGreatDoorPFnReadJournalx22
import Derived.Test.YtofmlbgfcohhoaaGreatDoorPFnReadJournalx25
set_option maxHeartbeats 8000000
set_option maxRecDepth 100000
namespace Go.Proofs.YtofmlbgfcohhoaaGreatDoor.PFnReadJournal
open Go.RowKit Go.Proofs.YtofmlbgfcohhoaaGreatDoorW.PrintWords Go.Proofs.YtofmlbgfcohhoaaGreatDoorW.PrintLast Go.Proofs.YtofmlbgfcohhoaaGreatDoorW.PrintMore Go.Proofs.YtofmlbgfcohhoaaGreatDoor.Lib Go.Proofs.Tryz
attribute [local go_sem] max2_int min2_int max_two min_two max_three min_three max_four min_four
set_option linter.unusedVariables false
set_option linter.unusedSimpArgs false

def F52.f (k : Nat) (a0_0 : Int) (a0_1 : Int) (l0_2 : List (S31)) (a1 : ByteArray) : Option (Int × Int × (List (S31)) × ByteArray) := (F55.f k a1).bind fun bt0 => (if bt0.2.2 = true then ((F17.f k a0_0 a0_1 l0_2 bt0.1 bt0.2.1).bind fun bt1 => (if bt1.2.2.2 = true then (some (bt1.1, bt1.2.1, bt1.2.2.1, (⟨#[111, 107]⟩ : ByteArray))) else (some (bt1.1, bt1.2.1, bt1.2.2.1, (⟨#[110, 111, 116]⟩ : ByteArray))))) else ((F44.f a0_0 a0_1 l0_2).bind fun bt2 => ((F6.f k a0_0 a0_1 a1).bind fun t0 => (some (bt2.1, bt2.2.1, bt2.2.2, t0)))))
theorem F52.m : ∀ a0 a1 a2 a3 k, LeO (F52.f k a0 a1 a2 a3) (F52.f (k + 1) a0 a1 a2 a3) := by
 intro a0 a1 a2 a3 k
 unfold F52.f
 repeat' (with_reducible first | exact F6.m _ _ _ _ | exact F17.m _ _ _ _ _ _ | exact F55.m _ _ | exact LeO.refl _ | exact LeO.none _ | refine LeO.ite ?_ ?_ | refine LeO.bind ?_ fun _ => ?_)
def F52.T7 : Bool × List (List Nat × List Nat) := (true, [([], []), ([0], [0]), ([], []), ([2], [2]), ([], []), ([3, 4, 1], [3, 4]), ([1, 5, 0, 1], [1]), ([5, 6, 0, 1, 2, 3, 4, 5, 6], [5])])
def F52.B7 : List Nat := [0, 1, 0, 4, 0, 31, 63, 127]
theorem F52.tab7 : rtab .any (opsOf f87 7) = F52.T7 := by kernel_rfl
theorem F52.bits7 : waitsOk F52.T7.2 F52.B7 = true := by kernel_rfl
theorem F52.c (k : Nat) (a0_0 : Int) (a0_1 : Int) (A0_2 : Option Addr) (c0_2 : Nat) (l0_2 : List (S31)) (a1 : ByteArray) (r1 : Int) (r2 : Int) (r3 : List (S31)) (r4 : ByteArray) (w : World) (hG : Glob w) (hr0_2 : Kd.C k31 w A0_2 l0_2.length l0_2) (hc0_2 : l0_2.length ≤ c0_2) (H : F52.f k a0_0 a0_1 l0_2 a1 = some (r1, r2, r3, r4)) :
  Calls prog 87 #[.agg #[.int .i64 a0_0, .int .i64 a0_1, .slice A0_2 l0_2.length c0_2], .string a1] w fun e w' => ∃ v2_ : Value, e = .returned (.tuple #[.agg #[.int .i64 r1, .int .i64 r2, v2_], .string r4]) ∧ Kd.R k31 31 w' w.heap.size (fun _ => True) v2_ r3 ∧ Below w.heap.size w w' := by
 have hu34 := underlying34
 have hu38 := underlying38
 have hu31 := underlying31
 have HR0_2 := sqa hr0_2
 have HC0_2 := sqa hc0_2
 clear hr0_2 hc0_2
 have HB := sqh w
 unfold F52.f at H
 obtain ⟨⟨t738, t0, t1⟩, A3, H⟩ := sqD H
 try dsimp only at H
 go_enter func87, ntmps87
 go_upto_if 15 with (first | ((with_reducible refine sqd 2 rfl ?_); refine sqBx w (sqB HB) (cs := #[.int .i64 a0_0, .int .i64 a0_1, .slice A0_2 l0_2.length c0_2]) (t := 34) ?_; intro g0 hg w7 B0 E0 HB hb; clear hb hg) | ((with_reducible refine sqd 4 rfl ?_); refine sqBx w (sqB1 HB E0) (cs := #[.int .i64 0, .int .i64 0, .slice none 0 0]) (t := 34) ?_; intro g1 hg w8 B2 E1 HB hb; obtain ⟨N0, N1⟩ := sqM hg B0; replace B0 := sqT B0 hb; clear hb hg) | ((with_reducible refine sqc 85 rfl ?_); refine sqC (some 12) func85 #[.string a1] ?_; (with_reducible refine (F55.c k a1 t738 t0 t1 _ ?sideG A3.1).mono ?_); (case sideG => exact Z56 E0 E1); refine sqV fun w9 hb => ?_; obtain ⟨B0, B2⟩ := sqT2 hb B0 B2; replace HB := sqS (sqB2 HB E0 E1) hb) | ((with_reducible refine sqd 6 rfl ?_); refine sqBx w (sqB2 HB E0 E1) (cs := #[.int .i64 0, .string (⟨#[]⟩ : ByteArray)]) (t := 38) ?_; intro g2 hg w0 B8 E2 HB hb; obtain ⟨N2, N3⟩ := sqM hg B0; replace B0 := sqT B0 hb; obtain ⟨N4, N5⟩ := sqM hg B2; replace B2 := sqT B2 hb; clear hb hg; have := sqn4 N3 N2 N5 N4; have := sqY2 B8; have := sqn2 N0 N1; have := sqY3 B0))
 by_cases c4 : t1 = true
 ·subst c4
  rw [if_pos rfl] at H
  obtain ⟨⟨t742, t743, t2, t3⟩, A5, H⟩ := sqD H
  try dsimp only at H
  go_upto_if 23 with (first | ((with_reducible refine sqc 61 rfl ?_); refine sqC (some 19) func61 #[.agg #[.int .i64 a0_0, .int .i64 a0_1, .slice A0_2 l0_2.length c0_2], .agg #[.int .i64 t738, .string t0]] ?_; (with_reducible refine (F17.c k a0_0 a0_1 _ _ l0_2 t738 t0 t742 t743 t2 t3 _ ?sideG ?side1 ?side2 A5.1).mono ?_); (case sideG => exact Z49 E0 E1 E2); (case side1 => exact Kd.C_below HR0_2.1 (sqB3 HB E0 E1 E2)); (case side2 => exact HC0_2.1); rintro e w2 ⟨v0, rfl, ho0, hb⟩; refine ⟨_, rfl, ?_⟩; have O0 := sqL ho0 (sqB3 HB E0 E1 E2); replace B0 := sqH N2 B0 hb; replace B2 := sqH N4 B2 hb; replace B8 := sqa (blk_below (g := g2) (o := .cells #[.int .i64 t738, .string t0] 38 (0, 0)) (Z57 B8) hb); replace HB := sqS (sqB3 HB E0 E1 E2) hb; (try clear ho0)) | ((with_reducible refine sqd 8 rfl ?_); refine sqBx w (sqB3 HB E0 E1 E2) (cs := #[.int .i64 0, .int .i64 0, .slice none 0 0]) (t := 34) ?_; intro g3 hg w3 B9 E3 HB hb; replace O0 := sqU O0 hb; obtain ⟨N6, N7⟩ := sqM hg B0; replace B0 := sqT B0 hb; obtain ⟨N8, N9⟩ := sqM hg B2; replace B2 := sqT B2 hb; obtain ⟨N10, N11⟩ := sqM hg B8; replace B8 := sqT B8 hb; clear hb hg; obtain ⟨Ao0, co0, eo0⟩ := Kd.R_slice O0.1; subst eo0; have := sqn6 N7 N6 N9 N8 N11 N10; have := sqY3 B9; have := sqY3 B2))
  by_cases c6 : t3 = true
  ·subst c6
   rw [if_pos rfl] at H
   obtain ⟨rfl, rfl, rfl, rfl⟩ := sqO4 H
   go_wp2_with fail
   refine sqE g1 34 #[.int .i64 t742, .int .i64 t743, .slice Ao0 t2.length co0] (Z58 N8 B2) underlying34 ?_
   exact ⟨_, Z14, by (with_reducible repeat (first | apply Kd.R_alloc | apply Kd.R_drewN | apply Kd.R_drew)); exact Kd.R_mono (Kd.R_far (p := ⟨g1, 2, none⟩) (Kd.R_far (p := ⟨g1, 1, none⟩) (Kd.R_far (p := ⟨g1, 0, none⟩) (Kd.R_far (p := ⟨g3, 2, none⟩) (Kd.R_far (p := ⟨g3, 1, none⟩) (Kd.R_far (p := ⟨g3, 0, none⟩) (Kd.R_types (Kd.R_types O0.1 B9.1 (by decide)) B2.1 (by decide)) (fun _ hk => hk.1.2) (.int .i64 t742)) (fun _ hk => hk.1.2) (.int .i64 t743)) (fun _ hk => hk.1.2) (.slice Ao0 t2.length co0)) (fun _ hk => hk.2) (.int .i64 t742)) (fun _ hk => hk.2) (.int .i64 t743)) (fun _ hk => hk.2) (.slice Ao0 t2.length co0)) (fun _ hk => trivial), sqB4 HB E0 E1 E2 E3⟩
  obtain rfl := sqb c6
  rw [if_neg sqF] at H
  obtain ⟨rfl, rfl, rfl, rfl⟩ := sqO4 H
  go_wp2_with fail
  refine sqE g1 34 #[.int .i64 t742, .int .i64 t743, .slice Ao0 t2.length co0] (Z58 N8 B2) underlying34 ?_
  exact ⟨_, Z14, by (with_reducible repeat (first | apply Kd.R_alloc | apply Kd.R_drewN | apply Kd.R_drew)); exact Kd.R_mono (Kd.R_far (p := ⟨g1, 2, none⟩) (Kd.R_far (p := ⟨g1, 1, none⟩) (Kd.R_far (p := ⟨g1, 0, none⟩) (Kd.R_far (p := ⟨g3, 2, none⟩) (Kd.R_far (p := ⟨g3, 1, none⟩) (Kd.R_far (p := ⟨g3, 0, none⟩) (Kd.R_types (Kd.R_types O0.1 B9.1 (by decide)) B2.1 (by decide)) (fun _ hk => hk.1.2) (.int .i64 t742)) (fun _ hk => hk.1.2) (.int .i64 t743)) (fun _ hk => hk.1.2) (.slice Ao0 t2.length co0)) (fun _ hk => hk.2) (.int .i64 t742)) (fun _ hk => hk.2) (.int .i64 t743)) (fun _ hk => hk.2) (.slice Ao0 t2.length co0)) (fun _ hk => trivial), sqB4 HB E0 E1 E2 E3⟩
 obtain rfl := sqb c4
 rw [if_neg sqF] at H
 obtain ⟨⟨t4, t5, t6⟩, A0, H⟩ := sqD H
 try dsimp only at H
 obtain ⟨t7, A1, H⟩ := sqD H
 obtain ⟨rfl, rfl, rfl, rfl⟩ := sqO4 H
 try go_wp2_with fail
 obtain ⟨w4, hw_⟩ : ∃ w_, (w0.setCell ⟨g2, 0, none⟩ (.int .i64 t738)).setCell ⟨g2, 1, none⟩ (.string t0) = w_ := ⟨_, rfl⟩
 replace B0 := sqJ hw_ N2 B0
 replace B2 := sqJ hw_ N4 B2
 replace B8 : Aside0 (w4.heap[g2]? = some (.cells #[.int .i64 t738, .string t0] 38 (0, 0))) := by rw [← hw_]; exact ⟨Z57 B8⟩
 replace HB : Aside0 (Below w.heap.size w w4) := by rw [← hw_]; exact ⟨sqB3 HB E0 E1 E2⟩
 rw [hw_]; clear hw_
 replace B0 := sqa (blk_drew B0.1)
 replace B2 := sqa (blk_drew B2.1)
 replace B8 := sqa (blk_drew B8.1)
 replace HB := sqa (below_drew1 HB.1)
 refine start_ (n := 8) (S := fun w' => w'.cell? ⟨g0, 0, none⟩ = some (.int .i64 a0_0) ∧ w'.cell? ⟨g0, 1, none⟩ = some (.int .i64 a0_1) ∧ w'.cell? ⟨g0, 2, none⟩ = some (.slice A0_2 l0_2.length c0_2)) (ds := []) #[false, false, false, false, false, false, false, false] (by kernel_rfl) rfl rfl (sqk1 B0) (fun hHeld => ?_); refine with_tabW F52.tab7 F52.bits7 (fun HT_ HW_ => ?_)
 generalize w4.drew = w5 at B0 B2 B8 HB hHeld ⊢
 refine sqP 2 (some 28) (h := ?_)
 refine sqP 4 (some 30) (h := ?_)
 refine sqQ 0 (some 26) hHeld (h := ?_)
 refine sqQ 3 (some 29) hHeld (h := ?_)
 refine sq1 1 (some 27) (h := fun K hK => ?_)
 refine sqg func76 #[.agg #[.int .i64 a0_0, .int .i64 a0_1, .slice A0_2 l0_2.length c0_2]] ?_
 with_reducible refine (F44.c a0_0 a0_1 _ _ l0_2 t4 t5 t6 _ ?side1 ?side2 A0.1).mono ?_
 (case side1 => exact Z1)
 (case side2 => exact HC0_2.1)
 rintro e w6 ⟨v1, rfl, ho0, hb⟩
 refine ⟨_, rfl, ?_⟩
 have O1 := sqL ho0 (sqB3 HB E0 E1 E2)
 replace B0 := sqT B0 hb
 replace B2 := sqT B2 hb
 replace B8 := sqT B8 hb
 replace HB := sqS (sqB3 HB E0 E1 E2) hb
 refine hK.out _ _ (sqk1 B0) (fun hHeld => ?_)
 clear hK K
 refine sqN (some 27) ?_
 refine sq1 5 (some 31) (h := fun K hK => ?_)
 refine sqg func125 #[.agg #[.int .i64 a0_0, .int .i64 a0_1], .string a1] ?_
 with_reducible refine (F6.c k a0_0 a0_1 a1 t7 _ ?sideG A1.1).mono ?_
 (case sideG => exact Z49 E0 E1 E2)
 rintro e w53 ⟨rfl, hb⟩
 refine ⟨_, rfl, ?_⟩
 replace O1 := sqU O1 hb
 replace B0 := sqT B0 hb
 replace B2 := sqT B2 hb
 replace B8 := sqT B8 hb
 replace HB := sqS (sqB3 HB E0 E1 E2) hb
 obtain ⟨Ao1, co1, eo1⟩ := Kd.R_slice O1.1
 (first | subst eo1 | (injection eo1 with f1_ f2_ f3_; have f4_ := f1_.symm; have f5_ := f3_.symm; clear f1_ f2_ f3_; subst f4_; subst f5_))
 refine hK.out _ _ (sqk1 B0) (fun hHeld => ?_)
 clear hK K
 refine sqN (some 31) ?_
 refine sq1 6 none (h := fun K hK => ?_)
 have := sqY3 B2
 have := sqn4 N0 N5 N1 N4
 refine skip_ (w1 := ?_) (by rfl) rfl ?_ ?_
 rotate_left
 ·go_simp
  rfl
 refine hK.out _ _ (sql1 N0 hHeld) (fun hHeld => ?_)
 clear hK K
 refine sqP 7 (some 5) (h := ?_)
 refine done_ (done_of HT_.out (by kernel_rfl)) ?_
 try go_wp2
 refine sqE g1 34 #[.int .i64 t4, .int .i64 t5, .slice Ao1 t6.length co1] (by refine sqPut (cs := #[.int .i64 t4, .int .i64 t5, .slice none 0 0]) ?_ 2; refine sqPut (cs := #[.int .i64 t4, .int .i64 0, .slice none 0 0]) ?_ 1; refine sqPut (cs := #[.int .i64 0, .int .i64 0, .slice none 0 0]) ?_ 0; exact sqK B2) underlying34 ?_
 exact ⟨_, Z14, by (with_reducible repeat (first | apply Kd.R_alloc | apply Kd.R_drewN | apply Kd.R_drew)); exact Kd.R_mono (sqr3 O1.1 B2.1) (fun _ hk => trivial), sqB3 HB E0 E1 E2⟩

def F57.f (k : Nat) (a0_0 : Int) (a0_1 : Int) (l0_2 : List (S31)) (a1 : ByteArray) : Option (Int × Int × (List (S31)) × ByteArray) := (F47.f k a0_0 a0_1 l0_2).bind fun t0 => (if t0 = true then ((F52.f k a0_0 a0_1 l0_2 a1).bind fun bt0 => (some (bt0.1, bt0.2.1, bt0.2.2.1, bt0.2.2.2))) else (some (0, 0, ([] : List (S31)), (⟨#[]⟩ : ByteArray))))
theorem F57.m : ∀ a0 a1 a2 a3 k, LeO (F57.f k a0 a1 a2 a3) (F57.f (k + 1) a0 a1 a2 a3) := by
 intro a0 a1 a2 a3 k
 unfold F57.f
 repeat' (with_reducible first | exact F52.m _ _ _ _ _ | exact F47.m _ _ _ _ | exact LeO.refl _ | exact LeO.none _ | refine LeO.ite ?_ ?_ | refine LeO.bind ?_ fun _ => ?_)
theorem F57.c (k : Nat) (a0_0 : Int) (a0_1 : Int) (A0_2 : Option Addr) (c0_2 : Nat) (l0_2 : List (S31)) (a1 : ByteArray) (r1 : Int) (r2 : Int) (r3 : List (S31)) (r4 : ByteArray) (w : World) (hG : Glob w) (hr0_2 : Kd.C k31 w A0_2 l0_2.length l0_2) (hc0_2 : l0_2.length ≤ c0_2) (H : F57.f k a0_0 a0_1 l0_2 a1 = some (r1, r2, r3, r4)) :
  Calls prog 40 #[.agg #[.int .i64 a0_0, .int .i64 a0_1, .slice A0_2 l0_2.length c0_2], .string a1] w fun e w' => ∃ v2_ : Value, e = .returned (.tuple #[.agg #[.int .i64 r1, .int .i64 r2, v2_], .string r4]) ∧ Kd.R k31 31 w' w.heap.size (fun _ => True) v2_ r3 ∧ Below w.heap.size w w' := by
 have hu34 := underlying34
 have HR0_2 := sqa hr0_2
 have HC0_2 := sqa hc0_2
 clear hr0_2 hc0_2
 have HB := sqh w
 unfold F57.f at H
 obtain ⟨t0, A3, H⟩ := sqD H
 by_cases c4 : t0 = true
 ·subst c4
  rw [if_pos rfl] at H
  obtain ⟨⟨t1, t2, t3, t4⟩, A5, H⟩ := sqD H
  try dsimp only at H
  obtain ⟨rfl, rfl, rfl, rfl⟩ := sqO4 H
  go_enter func40, ntmps40
  go_wp2_with (first | ((with_reducible refine sqd 2 rfl ?_); refine sqBx w (sqB HB) (cs := #[.int .i64 a0_0, .int .i64 a0_1, .slice A0_2 l0_2.length c0_2]) (t := 34) ?_; intro g0 hg w6 B0 E0 HB hb; clear hb hg) | ((with_reducible refine sqd 4 rfl ?_); refine sqBx w (sqB1 HB E0) (cs := #[.int .i64 0, .int .i64 0, .slice none 0 0]) (t := 34) ?_; intro g1 hg w7 B2 E1 HB hb; obtain ⟨N0, N1⟩ := sqM hg B0; replace B0 := sqT B0 hb; clear hb hg; have := sqn2 N0 N1; have := sqY3 B0) | ((with_reducible refine sqc 60 rfl ?_); refine sqC (some 7) func60 #[.agg #[.int .i64 a0_0, .int .i64 a0_1, .slice A0_2 l0_2.length c0_2]] ?_; (with_reducible refine (F47.c k a0_0 a0_1 _ _ l0_2 true _ ?side1 ?side2 A3.1).mono ?_); (case side1 => exact Z1); (case side2 => exact HC0_2.1); refine sqV fun w0 hb => ?_; obtain ⟨B0, B2⟩ := sqT2 hb B0 B2; replace HB := sqS (sqB2 HB E0 E1) hb; have := sqY3 B0) | ((with_reducible refine sqc 87 rfl ?_); refine sqC (some 12) func87 #[.agg #[.int .i64 a0_0, .int .i64 a0_1, .slice A0_2 l0_2.length c0_2], .string a1] ?_; (with_reducible refine (F52.c k a0_0 a0_1 _ _ l0_2 a1 t1 t2 t3 t4 _ ?sideG ?side1 ?side2 A5.1).mono ?_); (case sideG => exact Z56 E0 E1); (case side1 => exact Z1); (case side2 => exact HC0_2.1); rintro e w1 ⟨v0, rfl, ho0, hb⟩; refine ⟨_, rfl, ?_⟩; have O0 := sqL ho0 (sqB2 HB E0 E1); obtain ⟨B0, B2⟩ := sqT2 hb B0 B2; replace HB := sqS (sqB2 HB E0 E1) hb; (try clear ho0); have := sqY3 B2; obtain ⟨Ao0, co0, eo0⟩ := Kd.R_slice O0.1; subst eo0))
  refine sqE g1 34 #[.int .i64 t1, .int .i64 t2, .slice Ao0 t3.length co0] (by refine sqPut (cs := #[.int .i64 t1, .int .i64 t2, .slice none 0 0]) ?_ 2; refine sqPut (cs := #[.int .i64 t1, .int .i64 0, .slice none 0 0]) ?_ 1; refine sqPut (cs := #[.int .i64 0, .int .i64 0, .slice none 0 0]) ?_ 0; exact sqK B2) underlying34 ?_
  exact ⟨_, Z14, by (with_reducible repeat (first | apply Kd.R_alloc | apply Kd.R_drewN | apply Kd.R_drew)); exact Kd.R_mono (sqr3 O0.1 B2.1) (fun _ hk => trivial), sqB2 HB E0 E1⟩
 obtain rfl := sqb c4
 rw [if_neg sqF] at H
 obtain ⟨rfl, rfl, rfl, rfl⟩ := sqO4 H
 go_enter func40, ntmps40
 go_wp2_with (first | ((with_reducible refine sqd 2 rfl ?_); refine sqBx w (sqB HB) (cs := #[.int .i64 a0_0, .int .i64 a0_1, .slice A0_2 l0_2.length c0_2]) (t := 34) ?_; intro g0 hg w2 B0 E0 HB hb; clear hb hg) | ((with_reducible refine sqd 4 rfl ?_); refine sqBx w (sqB1 HB E0) (cs := #[.int .i64 0, .int .i64 0, .slice none 0 0]) (t := 34) ?_; intro g1 hg w3 B2 E1 HB hb; obtain ⟨N0, N1⟩ := sqM hg B0; replace B0 := sqT B0 hb; clear hb hg; have := sqn2 N0 N1; have := sqY3 B0) | ((with_reducible refine sqc 60 rfl ?_); refine sqC (some 7) func60 #[.agg #[.int .i64 a0_0, .int .i64 a0_1, .slice A0_2 l0_2.length c0_2]] ?_; (with_reducible refine (F47.c k a0_0 a0_1 _ _ l0_2 false _ ?side1 ?side2 A3.1).mono ?_); (case side1 => exact Z1); (case side2 => exact HC0_2.1); refine sqV fun w4 hb => ?_; obtain ⟨B0, B2⟩ := sqT2 hb B0 B2; replace HB := sqS (sqB2 HB E0 E1) hb; have := sqY3 B2))
 refine sqE g1 34 #[.int .i64 0, .int .i64 0, .slice none 0 0] (Z18 B2) underlying34 ?_
 exact ⟨_, Z14, Z19, sqB2 HB E0 E1⟩

def F60.f (k : Nat) (a0_0 : Int) (a0_1 : ByteArray) : Option (ByteArray) := (F11.f k a0_0 a0_1).bind fun t0 => (some t0)
theorem F60.m : ∀ a0 a1 k, LeO (F60.f k a0 a1) (F60.f (k + 1) a0 a1) := by
 intro a0 a1 k
 unfold F60.f
 repeat' (with_reducible first | exact F11.m _ _ _ | exact LeO.refl _ | exact LeO.none _ | refine LeO.ite ?_ ?_ | refine LeO.bind ?_ fun _ => ?_)
theorem F60.c (k : Nat) (a0_0 : Int) (a0_1 : ByteArray) (r : ByteArray) (w : World) (hG : Glob w) (H : F60.f k a0_0 a0_1 = some r) :
  Calls prog 41 #[.agg #[.int .i64 a0_0, .string a0_1]] w fun e w' => e = .returned (.string r) ∧ Below w.heap.size w w' := by
 have hu38 := underlying38
 have HB := sqh w
 unfold F60.f at H
 obtain ⟨t0, A2, H⟩ := sqD H
 obtain rfl := sqo H
 go_enter func41, ntmps41
 go_wp2_with (first | ((with_reducible refine sqd 1 rfl ?_); refine sqBx w (sqB HB) (cs := #[.int .i64 a0_0, .string a0_1]) (t := 38) ?_; intro g0 hg w3 B0 E0 HB hb; clear hb hg; have := sqY2 B0) | ((with_reducible refine sqc 88 rfl ?_); refine sqC (some 4) func88 #[.agg #[.int .i64 a0_0, .string a0_1]] ?_; (with_reducible refine (F11.c k a0_0 a0_1 t0 _ ?sideG A2.1).mono ?_); (case sideG => exact Z59 E0); refine sqV fun w5 hb => ?_; replace B0 := sqT B0 hb; replace HB := sqS (sqB1 HB E0) hb))
 go_ret
 exact ⟨Z14, sqB1 HB E0⟩

def F32.l0 : Nat → ByteArray → List (S38) → Int → Int → Option (ByteArray)
 | 0, _, _, _, _ => none
 | k + 1, x3, x7, x8, x9 => if x9 < x8 then (if 0 ≤ x9 then (if x9 < (x7.length : Int) then ((F11.f k ((rd_T38 x7 x9).f0) ((rd_T38 x7 x9).f1)).bind fun t0 => (if t0.toList = ([] : List UInt8) then (some (⟨#[]⟩ : ByteArray)) else (if t0.size + 1 ≤ 9223372036854775807 then (if x3.size + (t0 ++ (⟨#[10]⟩ : ByteArray)).size ≤ 9223372036854775807 then (F32.l0 k (x3 ++ (t0 ++ (⟨#[10]⟩ : ByteArray))) x7 x8 (wrap64 (x9 + 1))) else (none)) else (none)))) else (none)) else (none)) else (some x3)
def F32.f (k : Nat) (l0 : List (S38)) : Option (ByteArray) := F32.l0 k (⟨#[]⟩ : ByteArray) l0 (l0.length : Int) 0
abbrev F32.M (k : Nat) : Prop := (∀ y0 y1 y2 y3, LeO (F32.l0 k y0 y1 y2 y3) (F32.l0 (k + 1) y0 y1 y2 y3))
theorem F32.mt : ∀ k, F32.M k → F32.M (k + 1) ∧ ∀ a0, LeO (F32.f k a0) (F32.f (k + 1) a0) := by
  rintro k ih0
  refine ⟨?_, ?_⟩ <;> (try unfold F32.M) <;> intros <;> (first | unfold F32.l0 | unfold F32.f) <;> repeat' (with_reducible first | exact ih0 _ _ _ _ | exact F11.m _ _ _ | exact LeO.refl _ | exact LeO.none _ | refine LeO.ite ?_ ?_ | refine LeO.bind ?_ fun _ => ?_)
theorem F32.ml : ∀ k, F32.M k
 | 0 => fun _ _ _ _ r h => by simp [F32.l0] at h
 | k + 1 => (F32.mt k (F32.ml k)).1
theorem F32.m a0 k : LeO (F32.f k a0) (F32.f (k + 1) a0) := (F32.mt k (F32.ml k)).2 a0
theorem F32.c (k : Nat) (A0 : Option Addr) (c0 : Nat) (l0 : List (S38)) (r : ByteArray) (w : World) (hG : Glob w) (hr0 : Kd.C k38 w A0 l0.length l0) (hc0 : l0.length ≤ c0) (H : F32.f k l0 = some r) :
  Calls prog 42 #[.slice A0 l0.length c0] w fun e w' => e = .returned (.string r) ∧ Below w.heap.size w w' := by
 have hu38 := underlying38
 have HR0 := sqa hr0
 have HC0 := sqa hc0
 clear hr0 hc0
 have HB := sqh w
 unfold F32.f at H
 have H' := sqa H
 clear H
 go_enter func42, ntmps42
 go_wp2
 go_loopg [3, 9] k (fun kq v3 v9 w' => ∃ (x3_1 : ByteArray) (x9_1 : Int), v3 = .string x3_1 ∧ v9 = .int .i64 x9_1 ∧ Aside0 (F32.l0 kq x3_1 l0 (l0.length : Int) x9_1 = some r) ∧ Aside0 (kq ≤ k) ∧ Aside0 (Below w.heap.size w w'))
 case atStart => exact ⟨((⟨#[]⟩ : ByteArray)), (0), Z2, Z2, H', ⟨Nat.le_refl _⟩, ⟨sqB HB⟩⟩
 case round =>
  clear H'
  obtain ⟨x3_1, x9_1, rfl, rfl, HA, HK1, HB⟩ := hrel
  cases gk with
  | zero => exact absurd HA.out (by simp [F32.l0])
  | succ k1 =>
   have H := HA.out
   clear HA
   simp only [F32.l0] at H
   by_cases c2 : x9_1 < (l0.length : Int)
   ·rw [if_pos c2] at H
    have c2b0 : decide (x9_1 < (l0.length : Int)) = true := decide_eq_true c2
    clear c2
    obtain ⟨c3, H⟩ := sqI H
    have c3b0 : decide (0 ≤ x9_1) = true := decide_eq_true c3
    clear c3
    obtain ⟨c4, H⟩ := sqI H
    have c4b0 : decide (x9_1 < (l0.length : Int)) = true := decide_eq_true c4
    clear c4
    obtain ⟨t0, A5, H⟩ := sqD H
    by_cases c6 : t0.toList = ([] : List UInt8)
    ·rw [if_pos c6] at H
     have c6b0 : (t0.toList == ([] : List UInt8)) = true := sqe1 c6
     try have c6b8 : t0.toList.isEmpty = true := by (have h_ := c6b0; (repeat rw [sqy] at h_); exact h_)
     have c6b1 : (t0.toList != ([] : List UInt8)) = false := sqn0 c6
     clear c6
     obtain rfl := sqo H
     have p0 : 0 ≤ (x9_1 : Int) := of_decide_eq_true Z7
     have q0 : x9_1 < (l0.length : Int) := of_decide_eq_true Z7
     obtain ⟨ad0, e0, hx0, hx1⟩ := at_T38 HR0.1 x9_1 p0 q0
     cases e0
     replace hx0 := (HB.1.cell (World.block_lt_of_cell? w _ hx0)).trans hx0
     replace hx1 := (HB.1.cell (World.block_lt_of_cell? w _ hx1)).trans hx1
     replace p0 := eq_true p0
     replace q0 := eq_true q0
     go_wp2_with (first | ((with_reducible refine sqd 5 rfl ?_); refine sqBx w (sqB HB) (cs := #[.int .i64 0, .string (⟨#[]⟩ : ByteArray)]) (t := 38) ?_; intro g0 hg w7 B0 E0 HB hb; clear hb hg; have := sqY2 B0) | ((with_reducible refine sqc 88 rfl ?_); refine sqC (some 14) func88 #[.agg #[.int .i64 ((rd_T38 l0 x9_1).f0), .string ((rd_T38 l0 x9_1).f1)]] ?_; (with_reducible refine (F11.c k1 ((rd_T38 l0 x9_1).f0) ((rd_T38 l0 x9_1).f1) t0 _ ?sideG A5.1).mono ?_); (case sideG => exact Z59 E0); refine sqV fun w9 hb => ?_; replace B0 := sqa (blk_below (g := g0) (o := .cells #[.int .i64 ((rd_T38 l0 x9_1).f0), .string ((rd_T38 l0 x9_1).f1)] 38 (0, 0)) (Z60 B0) hb); replace HB := sqS (sqB1 HB E0) hb))
     go_ret
     exact ⟨Z14, sqB1 HB E0⟩
    rw [if_neg c6] at H
    have c6b0 : (t0.toList == ([] : List UInt8)) = false := sqe0 c6
    try have c6b8 : t0.toList.isEmpty = false := by (have h_ := c6b0; (repeat rw [sqy] at h_); exact h_)
    have c6b1 : (t0.toList != ([] : List UInt8)) = true := sqn1 c6
    obtain ⟨c10, H⟩ := sqI H
    have c1 := eq_true c10
    have c5 : decide (t0.size + 1 ≤ 9223372036854775807) = true := decide_eq_true c10
    try have c7 : (9223372036854775807 < t0.size + 1) = False := eq_false (Nat.not_lt.2 c10)
    obtain ⟨c8, H⟩ := sqI H
    have c9 := eq_true c8
    have c12 : decide (x3_1.size + (t0 ++ (⟨#[10]⟩ : ByteArray)).size ≤ 9223372036854775807) = true := decide_eq_true c8
    try have c13 : (9223372036854775807 < x3_1.size + (t0 ++ (⟨#[10]⟩ : ByteArray)).size) = False := eq_false (Nat.not_lt.2 c8)
    have H' := sqa H
    clear H
    have p0 : 0 ≤ (x9_1 : Int) := of_decide_eq_true Z7
    have q0 : x9_1 < (l0.length : Int) := of_decide_eq_true Z7
    obtain ⟨ad0, e0, hx0, hx1⟩ := at_T38 HR0.1 x9_1 p0 q0
    cases e0
    replace hx0 := (HB.1.cell (World.block_lt_of_cell? w _ hx0)).trans hx0
    replace hx1 := (HB.1.cell (World.block_lt_of_cell? w _ hx1)).trans hx1
    replace p0 := eq_true p0
    replace q0 := eq_true q0
    go_wp2_with (first | ((with_reducible refine sqd 5 rfl ?_); refine sqBx w (sqB HB) (cs := #[.int .i64 0, .string (⟨#[]⟩ : ByteArray)]) (t := 38) ?_; intro g0 hg w0 B0 E0 HB hb; clear hb hg; have := sqY2 B0) | ((with_reducible refine sqc 88 rfl ?_); refine sqC (some 14) func88 #[.agg #[.int .i64 ((rd_T38 l0 x9_1).f0), .string ((rd_T38 l0 x9_1).f1)]] ?_; (with_reducible refine (F11.c k1 ((rd_T38 l0 x9_1).f0) ((rd_T38 l0 x9_1).f1) t0 _ ?sideG A5.1).mono ?_); (case sideG => exact Z59 E0); refine sqV fun w1 hb => ?_; replace B0 := sqa (blk_below (g := g0) (o := .cells #[.int .i64 ((rd_T38 l0 x9_1).f0), .string ((rd_T38 l0 x9_1).f1)] 38 (0, 0)) (Z60 B0) hb); replace HB := sqS (sqB1 HB E0) hb))
    go_roundg k1
    case measure => have := HK1.out; omega
    case rel => exact ⟨(x3_1 ++ (t0 ++ (⟨#[10]⟩ : ByteArray))), (wrap64 (x9_1 + 1)), Z2, Z2, H', ⟨Z15 HK1⟩, ⟨sqB1 HB E0⟩⟩
   rw [if_neg c2] at H
   have c2b0 : decide (x9_1 < (l0.length : Int)) = false := decide_eq_false c2
   clear c2
   obtain rfl := sqo H
   go_wp2
   go_ret
   exact ⟨Z14, sqB HB⟩
end Go.Proofs.YtofmlbgfcohhoaaGreatDoor.PFnReadJournal
