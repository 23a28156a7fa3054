import Derived.Test.YtofmlbgfcohhoaaGreatDoorPFnDeskSayx3
set_option maxHeartbeats 8000000
set_option maxRecDepth 100000
namespace Go.Proofs.YtofmlbgfcohhoaaGreatDoor.PFnDeskSay
open Go.RowKit Go.Proofs.YtofmlbgfcohhoaaGreatDoorW.PrintWords Go.Proofs.YtofmlbgfcohhoaaGreatDoorW.PrintLast Go.Proofs.YtofmlbgfcohhoaaGreatDoorW.PrintMore Go.Proofs.YtofmlbgfcohhoaaGreatDoor.Lib Go.Proofs.Tryz
attribute [local go_sem] max2_int min2_int max_two min_two max_three min_three max_four min_four   -- for this text's walks alone
set_option linter.unusedVariables false
set_option linter.unusedSimpArgs false

def F95.f (k : Nat) (a0_0 : Int) (a0_1 : Int) : Option (Int × Int × (List (S31)) × Bool) := (F0.f k a0_0 a0_1).bind fun t0 => (if t0 = true then (some (a0_0, a0_1, ([] : List (S31)), true)) else (some (0, 0, ([] : List (S31)), false)))
theorem F95.c (k : Nat) (a0_0 : Int) (a0_1 : Int) (r1 : Int) (r2 : Int) (r3 : List (S31)) (r4 : Bool) (w : World) (H : F95.f k a0_0 a0_1 = some (r1, r2, r3, r4)) :
  Calls prog 112 #[.agg #[.int .i64 a0_0, .int .i64 a0_1]] w fun e w' => ∃ v2_ : Value, e = .returned (.tuple #[.agg #[.int .i64 r1, .int .i64 r2, v2_], .bool r4]) ∧ Kd.R k31 31 w' w.heap.size (fun _ => True) v2_ r3 ∧ Below w.heap.size w w' := by
 have hu31 := underlying31
 have hu34 := underlying34
 have HB := sqh w
 unfold F95.f at H
 obtain ⟨t0, A2, H⟩ := sqD H
 obtain rfl | rfl := sqt t0
 ·rw [if_pos rfl] at H
  obtain ⟨rfl, rfl, rfl, rfl⟩ := sqO4 H
  go_enter func112, ntmps112
  go_wp2_with (first | ((with_reducible refine sqd 1 rfl ?_); refine sqx0 w (sqB HB) #[.int .i64 a0_0, .int .i64 a0_1] 31 fun g0 w4 B0 E0 HB => ?_) | ((with_reducible refine sqd 2 rfl ?_); refine sqx1 w (sqB1 HB E0) #[.int .i64 0, .int .i64 0, .slice none 0 0] 34 B0 fun g1 w5 B2 E1 HB N0 N1 B0 => ?_; have := sqn2 N0 N1; have := sqY2 B0) | ((with_reducible refine sqc 77 rfl ?_); refine sqv (some 5) func77 (F0.c k a0_0 a0_1 true _ A2.1) fun w8 hb => ?_; obtain ⟨B0, B2⟩ := sqT2 hb B0 B2; replace HB := sqS (sqB2 HB E0 E1) hb; have := sqY2 B0; have := sqY3 B2))
  refine sqE g1 34 #[.int .i64 a0_0, .int .i64 a0_1, .slice none 0 0] (Z102 B2) underlying34 ?_
  exact ⟨_, Z5, Z47, sqB2 HB E0 E1⟩
 rw [if_neg sqF] at H
 obtain ⟨rfl, rfl, rfl, rfl⟩ := sqO4 H
 go_enter func112, ntmps112
 go_wp2_with (first | ((with_reducible refine sqd 1 rfl ?_); refine sqx0 w (sqB HB) #[.int .i64 a0_0, .int .i64 a0_1] 31 fun g0 w0 B0 E0 HB => ?_) | ((with_reducible refine sqd 2 rfl ?_); refine sqx1 w (sqB1 HB E0) #[.int .i64 0, .int .i64 0, .slice none 0 0] 34 B0 fun g1 w1 B2 E1 HB N0 N1 B0 => ?_; have := sqn2 N0 N1; have := sqY2 B0) | ((with_reducible refine sqc 77 rfl ?_); refine sqv (some 5) func77 (F0.c k a0_0 a0_1 false _ A2.1) fun w2 hb => ?_; obtain ⟨B0, B2⟩ := sqT2 hb B0 B2; replace HB := sqS (sqB2 HB E0 E1) hb; have := sqY3 B2))
 refine sqE g1 34 #[.int .i64 0, .int .i64 0, .slice none 0 0] (Z46 B2) underlying34 ?_
 exact ⟨_, Z5, Z47, sqB2 HB E0 E1⟩

end Go.Proofs.YtofmlbgfcohhoaaGreatDoor.PFnDeskSay
