import Derived.Test.YtofmlbgfcohhoaaGreatDoorPFnDeskSayx19
import Derived.Test.YtofmlbgfcohhoaaGreatDoorPFnDeskSayx28
set_option maxHeartbeats 8000000
set_option maxRecDepth 100000
namespace Go.Proofs.YtofmlbgfcohhoaaGreatDoor.PFnDeskSay
open Go.RowKit Go.Proofs.YtofmlbgfcohhoaaGreatDoorW.PrintWords Go.Proofs.YtofmlbgfcohhoaaGreatDoorW.PrintLast Go.Proofs.YtofmlbgfcohhoaaGreatDoorW.PrintMore Go.Proofs.YtofmlbgfcohhoaaGreatDoor.Lib Go.Proofs.Tryz
attribute [local go_sem] max2_int min2_int max_two min_two max_three min_three max_four min_four   -- for this text's walks alone
set_option linter.unusedVariables false
set_option linter.unusedSimpArgs false

def F58.j0 : Nat → Int → Bool → List Int → Int → Option (ByteArray × Int)
 | 0, _, _, _, _ => none
 | k + 1, x4, x5, x0, x1 => if x5 = true then ((some (([(⟨#[116, 101, 120, 116]⟩ : ByteArray), (⟨#[109, 111, 118, 101, 115]⟩ : ByteArray), (⟨#[116, 101, 114, 109, 115]⟩ : ByteArray), (⟨#[99, 114, 111, 115, 115, 105, 110, 103, 115]⟩ : ByteArray), (⟨#[101, 110, 100, 115]⟩ : ByteArray), (⟨#[114, 105, 110, 103, 115]⟩ : ByteArray), (⟨#[108, 105, 110, 107]⟩ : ByteArray)] : List ByteArray) : List ByteArray)).bind fun y0 => ((F1.f k x0 x1 7).bind fun bt0 => (if 0 ≤ bt0.1 then (if bt0.1 < (y0.length : Int) then (some (rdOf ByteArray.empty y0 bt0.1, bt0.2)) else (none)) else (none)))) else (if x4 = 2 then ((some (([(⟨#[]⟩ : ByteArray), (⟨#[100, 97, 110, 99, 101]⟩ : ByteArray), (⟨#[100, 97, 110, 99, 101, 32]⟩ : ByteArray), (⟨#[100, 97, 110, 99, 101, 32, 120]⟩ : ByteArray), (⟨#[116, 97, 107, 101]⟩ : ByteArray), (⟨#[116, 97, 107, 101, 32, 50, 47, 52]⟩ : ByteArray), (⟨#[99, 111, 108, 111, 117, 114, 115]⟩ : ByteArray), (⟨#[99, 111, 108, 111, 117, 114, 115, 32, 120]⟩ : ByteArray), (⟨#[99, 111, 108, 111, 117, 114, 115, 32, 48]⟩ : ByteArray), (⟨#[99, 111, 108, 111, 117, 114, 115, 32, 49, 51]⟩ : ByteArray), (⟨#[32, 116, 101, 120, 116]⟩ : ByteArray), (⟨#[109, 105, 114, 114, 111, 114, 32, 49]⟩ : ByteArray)] : List ByteArray) : List ByteArray)).bind fun y1 => ((F1.f k x0 x1 12).bind fun bt1 => (if 0 ≤ bt1.1 then (if bt1.1 < (y1.length : Int) then (some (rdOf ByteArray.empty y1 bt1.1, bt1.2)) else (none)) else (none)))) else (if x4 = 3 then ((F1.f k x0 x1 12).bind fun bt2 => ((F4.f k (wrap64 (1 + bt2.1))).bind fun t0 => (if 8 + t0.size ≤ 9223372036854775807 then (some ((⟨#[99, 111, 108, 111, 117, 114, 115, 32]⟩ : ByteArray) ++ t0, bt2.2)) else (none)))) else ((F17.f k x0 x1).bind fun bt3 => ((F23.f k bt3.1 bt3.2.1).bind fun t1 => (some (t1, bt3.2.2))))))
def F58.f (k : Nat) (s0_0 : List Int) (s0_1 : Int) : Option (ByteArray × Int) := (F1.f k s0_0 s0_1 6).bind fun bt0 => (if bt0.1 = 0 then (F58.j0 k bt0.1 (bt0.1 == 0) s0_0 bt0.2) else (F58.j0 k bt0.1 (bt0.1 == 1) s0_0 bt0.2))
theorem F58.c (k : Nat) (g : Nat) (s0_0 : List Int) (s0_1 : Int) (r1 : ByteArray) (r2 : Int) (w0 w : World) (hI : IsS131 w0 w g s0_0 s0_1) (hB : Below w0.heap.size w0 w) (H : F58.f k s0_0 s0_1 = some (r1, r2)) :
  Calls prog 103 #[.pointer (some ⟨g, 0, none⟩)] w fun e w' => e = .returned (.string r1) ∧ IsS131 w0 w' g s0_0 r2 ∧ Below w0.heap.size w0 w' ∧ KeepBut w w' g none := by
 have HI0 := sqa hI
 have HK := sqa (KeepBut.refl w g none)
 have HL := sqa hB.size
 clear hI
 have HW0 := sqa hB.size
 have HB := sqa hB
 clear hB
 unfold F58.f at H
 obtain ⟨⟨t0, t1⟩, A2, H⟩ := sqD H
 try dsimp only at H
 have HC3 := sqa H
 clear H
 go_enter func103, ntmps103
 go_upto_if 5 with (first | ((with_reducible refine sqc 82 rfl ?_); refine sqvs (some 4) func82 (args := #[.pointer (some ⟨g, 0, none⟩), .int .i64 6]) (F1.c k g s0_0 s0_1 6 t0 t1 w0 _ (Z78 HI0) (Z80 HI0) A2.1) fun w4 hi hb hk => ?_; replace HK := sqa (KeepBut.trans Z79 hk (.inl rfl)); replace HB := sqa (hb); replace HI0 := sqa (hi)))
 (try simp only [Act.put, List.setIfInBounds_toArray, List.set_cons_zero, List.set_cons_succ])
 go_cut [5] (fun v5 wc => ∃ (kq : Nat) (x5_2 : Bool), v5 = .bool x5_2 ∧ Aside0 (F58.j0 kq t0 x5_2 s0_0 t1 = some (r1, r2)) ∧ Aside0 (kq ≤ k) ∧ Aside0 (IsS131 w0 wc g s0_0 t1) ∧ Aside0 (KeepBut w wc g none) ∧ Aside0 (Below w0.heap.size w0 wc))
 case first =>
  have H := HC3.1
  clear HC3
  obtain ⟨c5b0, c5b1, H⟩ | ⟨c5b0, c5b1, c5, H⟩ := sqi4 H
  ·(first | rw [c5b0] | (simp only [i64_w, i32_w]; rw [c5b0]) | skip)
   have H' := sqa H
   clear H
   go_wp2
   go_meet
   case rel => exact ⟨_, ((t0 == 0)), Z1, H', ⟨Z11⟩, ⟨Z78 HI0⟩, ⟨Z79⟩, ⟨Z80 HI0⟩⟩
  (first | rw [c5b0] | (simp only [i64_w, i32_w]; rw [c5b0]) | skip)
  have H' := sqa H
  clear H
  go_wp2
  go_meet
  case rel => exact ⟨_, ((t0 == 1)), Z1, H', ⟨Z11⟩, ⟨Z78 HI0⟩, ⟨Z79⟩, ⟨Z80 HI0⟩⟩
 case rest =>
  clear HC3
  obtain ⟨kq, x5_2, rfl, HA, HJ2, HI0, HK, HB⟩ := hcut
  cases kq with
  | zero => exact absurd HA.out (by simp [F58.j0])
  | succ kj2 =>
   have H := HA.out
   clear HA
   simp only [F58.j0] at H
   obtain rfl | rfl := sqt x5_2
   ·rw [if_pos rfl] at H
    obtain ⟨y0, hy0⟩ : ∃ y_ : List ByteArray, y_ = (([(⟨#[116, 101, 120, 116]⟩ : ByteArray), (⟨#[109, 111, 118, 101, 115]⟩ : ByteArray), (⟨#[116, 101, 114, 109, 115]⟩ : ByteArray), (⟨#[99, 114, 111, 115, 115, 105, 110, 103, 115]⟩ : ByteArray), (⟨#[101, 110, 100, 115]⟩ : ByteArray), (⟨#[114, 105, 110, 103, 115]⟩ : ByteArray), (⟨#[108, 105, 110, 107]⟩ : ByteArray)] : List ByteArray)) := ⟨_, rfl⟩
    replace H : ((F1.f kj2 s0_0 t1 7).bind fun bt0 => (if 0 ≤ bt0.1 then (if bt0.1 < (y0.length : Int) then (some (rdOf ByteArray.empty y0 bt0.1, bt0.2)) else (none)) else (none))) = some (r1, r2) := sqW hy0 H
    have Ny0 := sqa hy0
    clear hy0
    obtain ⟨⟨t2, t3⟩, A7, H⟩ := sqD H
    try dsimp only at H
    obtain ⟨c8b0, H⟩ := sqJ2 H
    obtain ⟨c9b0, H⟩ := sqJ2 H
    obtain ⟨rfl, rfl⟩ := sqO2 H
    go_wp2_with (first | ((with_reducible refine sqd 8 rfl ?_); refine Kd.R_lit Kd.string _ 9 ?hg (N := 8) ?hd (xs := ([(⟨#[116, 101, 120, 116]⟩ : ByteArray), (⟨#[109, 111, 118, 101, 115]⟩ : ByteArray), (⟨#[116, 101, 114, 109, 115]⟩ : ByteArray), (⟨#[99, 114, 111, 115, 115, 105, 110, 103, 115]⟩ : ByteArray), (⟨#[101, 110, 100, 115]⟩ : ByteArray), (⟨#[114, 105, 110, 103, 115]⟩ : ByteArray), (⟨#[108, 105, 110, 107]⟩ : ByteArray)] : List ByteArray)) (inner := [.string (⟨#[116, 101, 120, 116]⟩ : ByteArray), .string (⟨#[109, 111, 118, 101, 115]⟩ : ByteArray), .string (⟨#[116, 101, 114, 109, 115]⟩ : ByteArray), .string (⟨#[99, 114, 111, 115, 115, 105, 110, 103, 115]⟩ : ByteArray), .string (⟨#[101, 110, 100, 115]⟩ : ByteArray), .string (⟨#[114, 105, 110, 103, 115]⟩ : ByteArray), .string (⟨#[108, 105, 110, 107]⟩ : ByteArray)]) (ok := fun _ => True) (okp := fun _ => True) ?hr ?hp (fun _ hk => hk) trivial (Below.refl _ _) (Nat.le_refl _) (by simp) ?_; (case hd => rfl); (case hg => rfl); (case hr => exact Z17); (case hp => exact (Reps.one (show Kd.M Kd.string _ _ _ (⟨#[116, 101, 120, 116]⟩ : ByteArray) [.string (⟨#[116, 101, 120, 116]⟩ : ByteArray)] from rfl) (Reps.one (show Kd.M Kd.string _ _ _ (⟨#[109, 111, 118, 101, 115]⟩ : ByteArray) [.string (⟨#[109, 111, 118, 101, 115]⟩ : ByteArray)] from rfl) (Reps.one (show Kd.M Kd.string _ _ _ (⟨#[116, 101, 114, 109, 115]⟩ : ByteArray) [.string (⟨#[116, 101, 114, 109, 115]⟩ : ByteArray)] from rfl) (Reps.one (show Kd.M Kd.string _ _ _ (⟨#[99, 114, 111, 115, 115, 105, 110, 103, 115]⟩ : ByteArray) [.string (⟨#[99, 114, 111, 115, 115, 105, 110, 103, 115]⟩ : ByteArray)] from rfl) (Reps.one (show Kd.M Kd.string _ _ _ (⟨#[101, 110, 100, 115]⟩ : ByteArray) [.string (⟨#[101, 110, 100, 115]⟩ : ByteArray)] from rfl) (Reps.one (show Kd.M Kd.string _ _ _ (⟨#[114, 105, 110, 103, 115]⟩ : ByteArray) [.string (⟨#[114, 105, 110, 103, 115]⟩ : ByteArray)] from rfl) (Reps.one (show Kd.M Kd.string _ _ _ (⟨#[108, 105, 110, 107]⟩ : ByteArray) [.string (⟨#[108, 105, 110, 107]⟩ : ByteArray)] from rfl) (Reps.none _ _))))))))); intro v0 w1 ho0 hb hg_ hnew_; clear hg_ hnew_; (first | rw [← Ny0.out] at ho0 | (simp only [Int.reduceToNat] at ho0; rw [← Ny0.out] at ho0)); have O0 := sqa (Kd.R_lower ho0 (keep_size (w := w) (g := g) (row := none) Z79)); replace HK := sqa (KeepBut.trans Z79 (KeepBut.of_below hb g none) (.inl rfl)); replace HB := sqa (below_step (Z80 HI0) hb); replace HI0 := sqa (IsS131.below (Z78 HI0) hb); clear hb ho0) | ((with_reducible refine sqc 82 rfl ?_); refine sqvs (some 10) func82 (args := #[.pointer (some ⟨g, 0, none⟩), .int .i64 7]) (F1.c kj2 g s0_0 t1 7 t2 t3 w0 _ (Z78 HI0) (Z80 HI0) A7.1) fun w2 hi hb hk => ?_; replace O0 := sqa (Kd.R_mono (Kd.R_keep (IsS131.apart (show IsS131 w0 _ g s0_0 t1 from by repeat (first | (with_reducible first | exact HI0.1 | apply IsS131.alloc | apply IsS131.drewN | apply IsS131.drew | apply IsS131.set_1) | exact HI0.1)) (sqR O0) (by decide)) hk (fun _ h => h.2)) (fun _ h => h.1)); replace HK := sqa (KeepBut.trans Z79 hk (.inl rfl)); replace HB := sqa (hb); replace HI0 := sqa (hi); obtain ⟨Ao0, co0, eo0⟩ := Kd.R_slice O0.1; subst eo0; have p0 : 0 ≤ (t2 : Int) := of_decide_eq_true Z16; have q0 : t2 < (y0.length : Int) := of_decide_eq_true Z16; obtain ⟨ad0, e0, hx0⟩ := Kd.at_string (Kd.R_reads' O0.1).2.2 t2 p0 q0; cases e0; replace p0 := eq_true p0; replace q0 := eq_true q0))
    go_ret
    exact ⟨Z5, Z78 HI0, Z80 HI0, Z79⟩
   rw [if_neg sqF] at H
   obtain ⟨c1, c2, H⟩ | ⟨c1, c2, c0, H⟩ := sqi4 H
   ·obtain ⟨y1, hy1⟩ : ∃ y_ : List ByteArray, y_ = (([(⟨#[]⟩ : ByteArray), (⟨#[100, 97, 110, 99, 101]⟩ : ByteArray), (⟨#[100, 97, 110, 99, 101, 32]⟩ : ByteArray), (⟨#[100, 97, 110, 99, 101, 32, 120]⟩ : ByteArray), (⟨#[116, 97, 107, 101]⟩ : ByteArray), (⟨#[116, 97, 107, 101, 32, 50, 47, 52]⟩ : ByteArray), (⟨#[99, 111, 108, 111, 117, 114, 115]⟩ : ByteArray), (⟨#[99, 111, 108, 111, 117, 114, 115, 32, 120]⟩ : ByteArray), (⟨#[99, 111, 108, 111, 117, 114, 115, 32, 48]⟩ : ByteArray), (⟨#[99, 111, 108, 111, 117, 114, 115, 32, 49, 51]⟩ : ByteArray), (⟨#[32, 116, 101, 120, 116]⟩ : ByteArray), (⟨#[109, 105, 114, 114, 111, 114, 32, 49]⟩ : ByteArray)] : List ByteArray)) := ⟨_, rfl⟩
    replace H : ((F1.f kj2 s0_0 t1 12).bind fun bt1 => (if 0 ≤ bt1.1 then (if bt1.1 < (y1.length : Int) then (some (rdOf ByteArray.empty y1 bt1.1, bt1.2)) else (none)) else (none))) = some (r1, r2) := sqW hy1 H
    have Ny1 := sqa hy1
    clear hy1
    obtain ⟨⟨t4, t5⟩, A0, H⟩ := sqD H
    try dsimp only at H
    obtain ⟨c4, H⟩ := sqJ2 H
    obtain ⟨c10, H⟩ := sqJ2 H
    obtain ⟨rfl, rfl⟩ := sqO2 H
    go_wp2_with (first | ((with_reducible refine sqd 15 rfl ?_); refine Kd.R_lit Kd.string _ 9 ?hg (N := 15) ?hd (xs := ([(⟨#[]⟩ : ByteArray), (⟨#[100, 97, 110, 99, 101]⟩ : ByteArray), (⟨#[100, 97, 110, 99, 101, 32]⟩ : ByteArray), (⟨#[100, 97, 110, 99, 101, 32, 120]⟩ : ByteArray), (⟨#[116, 97, 107, 101]⟩ : ByteArray), (⟨#[116, 97, 107, 101, 32, 50, 47, 52]⟩ : ByteArray), (⟨#[99, 111, 108, 111, 117, 114, 115]⟩ : ByteArray), (⟨#[99, 111, 108, 111, 117, 114, 115, 32, 120]⟩ : ByteArray), (⟨#[99, 111, 108, 111, 117, 114, 115, 32, 48]⟩ : ByteArray), (⟨#[99, 111, 108, 111, 117, 114, 115, 32, 49, 51]⟩ : ByteArray), (⟨#[32, 116, 101, 120, 116]⟩ : ByteArray), (⟨#[109, 105, 114, 114, 111, 114, 32, 49]⟩ : ByteArray)] : List ByteArray)) (inner := [.string (⟨#[]⟩ : ByteArray), .string (⟨#[100, 97, 110, 99, 101]⟩ : ByteArray), .string (⟨#[100, 97, 110, 99, 101, 32]⟩ : ByteArray), .string (⟨#[100, 97, 110, 99, 101, 32, 120]⟩ : ByteArray), .string (⟨#[116, 97, 107, 101]⟩ : ByteArray), .string (⟨#[116, 97, 107, 101, 32, 50, 47, 52]⟩ : ByteArray), .string (⟨#[99, 111, 108, 111, 117, 114, 115]⟩ : ByteArray), .string (⟨#[99, 111, 108, 111, 117, 114, 115, 32, 120]⟩ : ByteArray), .string (⟨#[99, 111, 108, 111, 117, 114, 115, 32, 48]⟩ : ByteArray), .string (⟨#[99, 111, 108, 111, 117, 114, 115, 32, 49, 51]⟩ : ByteArray), .string (⟨#[32, 116, 101, 120, 116]⟩ : ByteArray), .string (⟨#[109, 105, 114, 114, 111, 114, 32, 49]⟩ : ByteArray)]) (ok := fun _ => True) (okp := fun _ => True) ?hr ?hp (fun _ hk => hk) trivial (Below.refl _ _) (Nat.le_refl _) (by simp) ?_; (case hd => rfl); (case hg => rfl); (case hr => exact Z17); (case hp => exact (Reps.one (show Kd.M Kd.string _ _ _ (⟨#[]⟩ : ByteArray) [.string (⟨#[]⟩ : ByteArray)] from rfl) (Reps.one (show Kd.M Kd.string _ _ _ (⟨#[100, 97, 110, 99, 101]⟩ : ByteArray) [.string (⟨#[100, 97, 110, 99, 101]⟩ : ByteArray)] from rfl) (Reps.one (show Kd.M Kd.string _ _ _ (⟨#[100, 97, 110, 99, 101, 32]⟩ : ByteArray) [.string (⟨#[100, 97, 110, 99, 101, 32]⟩ : ByteArray)] from rfl) (Reps.one (show Kd.M Kd.string _ _ _ (⟨#[100, 97, 110, 99, 101, 32, 120]⟩ : ByteArray) [.string (⟨#[100, 97, 110, 99, 101, 32, 120]⟩ : ByteArray)] from rfl) (Reps.one (show Kd.M Kd.string _ _ _ (⟨#[116, 97, 107, 101]⟩ : ByteArray) [.string (⟨#[116, 97, 107, 101]⟩ : ByteArray)] from rfl) (Reps.one (show Kd.M Kd.string _ _ _ (⟨#[116, 97, 107, 101, 32, 50, 47, 52]⟩ : ByteArray) [.string (⟨#[116, 97, 107, 101, 32, 50, 47, 52]⟩ : ByteArray)] from rfl) (Reps.one (show Kd.M Kd.string _ _ _ (⟨#[99, 111, 108, 111, 117, 114, 115]⟩ : ByteArray) [.string (⟨#[99, 111, 108, 111, 117, 114, 115]⟩ : ByteArray)] from rfl) (Reps.one (show Kd.M Kd.string _ _ _ (⟨#[99, 111, 108, 111, 117, 114, 115, 32, 120]⟩ : ByteArray) [.string (⟨#[99, 111, 108, 111, 117, 114, 115, 32, 120]⟩ : ByteArray)] from rfl) (Reps.one (show Kd.M Kd.string _ _ _ (⟨#[99, 111, 108, 111, 117, 114, 115, 32, 48]⟩ : ByteArray) [.string (⟨#[99, 111, 108, 111, 117, 114, 115, 32, 48]⟩ : ByteArray)] from rfl) (Reps.one (show Kd.M Kd.string _ _ _ (⟨#[99, 111, 108, 111, 117, 114, 115, 32, 49, 51]⟩ : ByteArray) [.string (⟨#[99, 111, 108, 111, 117, 114, 115, 32, 49, 51]⟩ : ByteArray)] from rfl) (Reps.one (show Kd.M Kd.string _ _ _ (⟨#[32, 116, 101, 120, 116]⟩ : ByteArray) [.string (⟨#[32, 116, 101, 120, 116]⟩ : ByteArray)] from rfl) (Reps.one (show Kd.M Kd.string _ _ _ (⟨#[109, 105, 114, 114, 111, 114, 32, 49]⟩ : ByteArray) [.string (⟨#[109, 105, 114, 114, 111, 114, 32, 49]⟩ : ByteArray)] from rfl) (Reps.none _ _)))))))))))))); intro v1 w3 ho1 hb hg_ hnew_; clear hg_ hnew_; (first | rw [← Ny1.out] at ho1 | (simp only [Int.reduceToNat] at ho1; rw [← Ny1.out] at ho1)); have O1 := sqa (Kd.R_lower ho1 (keep_size (w := w) (g := g) (row := none) Z79)); replace HK := sqa (KeepBut.trans Z79 (KeepBut.of_below hb g none) (.inl rfl)); replace HB := sqa (below_step (Z80 HI0) hb); replace HI0 := sqa (IsS131.below (Z78 HI0) hb); clear hb ho1) | ((with_reducible refine sqc 82 rfl ?_); refine sqvs (some 17) func82 (args := #[.pointer (some ⟨g, 0, none⟩), .int .i64 12]) (F1.c kj2 g s0_0 t1 12 t4 t5 w0 _ (Z78 HI0) (Z80 HI0) A0.1) fun w5 hi hb hk => ?_; replace O1 := sqa (Kd.R_mono (Kd.R_keep (IsS131.apart (show IsS131 w0 _ g s0_0 t1 from by repeat (first | (with_reducible first | exact HI0.1 | apply IsS131.alloc | apply IsS131.drewN | apply IsS131.drew | apply IsS131.set_1) | exact HI0.1)) (sqR O1) (by decide)) hk (fun _ h => h.2)) (fun _ h => h.1)); replace HK := sqa (KeepBut.trans Z79 hk (.inl rfl)); replace HB := sqa (hb); replace HI0 := sqa (hi); obtain ⟨Ao1, co1, eo1⟩ := Kd.R_slice O1.1; subst eo1; have p1 : 0 ≤ (t4 : Int) := of_decide_eq_true Z16; have q1 : t4 < (y1.length : Int) := of_decide_eq_true Z16; obtain ⟨ad1, e1, hx1⟩ := Kd.at_string (Kd.R_reads' O1.1).2.2 t4 p1 q1; cases e1; replace p1 := eq_true p1; replace q1 := eq_true q1))
    go_ret
    exact ⟨Z5, Z78 HI0, Z80 HI0, Z79⟩
   obtain ⟨c12, c13, H⟩ | ⟨c12, c13, c22, H⟩ := sqi4 H
   ·obtain ⟨⟨t6, t7⟩, A1, H⟩ := sqD H
    try dsimp only at H
    obtain ⟨t8, A3, H⟩ := sqD H
    obtain ⟨c25, c18, c19, H⟩ := sqJ5 H
    try have c20 : (9223372036854775807 < 8 + t8.size) = False := eq_false (Nat.not_lt.2 c25)
    obtain ⟨rfl, rfl⟩ := sqO2 H
    go_wp2_with (first | ((with_reducible refine sqc 82 rfl ?_); refine sqvs (some 23) func82 (args := #[.pointer (some ⟨g, 0, none⟩), .int .i64 12]) (F1.c kj2 g s0_0 t1 12 t6 t7 w0 _ (Z78 HI0) (Z80 HI0) A1.1) fun w6 hi hb hk => ?_; replace HK := sqa (KeepBut.trans Z79 hk (.inl rfl)); replace HB := sqa (hb); replace HI0 := sqa (hi)) | ((with_reducible refine sqc 93 rfl ?_); refine sqv (some 25) func93 (F4.c kj2 (wrap64 (1 + t6)) t8 _ A3.1) fun w7 hb => ?_; replace HK := sqa (KeepBut.trans Z79 (KeepBut.of_below hb g none) (.inl rfl)); replace HB := sqa (below_step (Z80 HI0) hb); replace HI0 := sqa (IsS131.below (Z78 HI0) hb)))
    go_ret
    exact ⟨Z5, Z78 HI0, Z80 HI0, Z79⟩
   obtain ⟨⟨t9, t10, t11⟩, A4, H⟩ := sqD H
   try dsimp only at H
   obtain ⟨t12, A5, H⟩ := sqD H
   obtain ⟨rfl, rfl⟩ := sqO2 H
   go_wp2_with (first | ((with_reducible refine sqc 68 rfl ?_); refine sqvs (some 28) func68 (args := #[.pointer (some ⟨g, 0, none⟩)]) (F17.c kj2 g s0_0 t1 t9 t10 t11 w0 _ (Z78 HI0) (Z80 HI0) A4.1) fun w8 hi hb hk => ?_; replace HK := sqa (KeepBut.trans Z79 hk (.inl rfl)); replace HB := sqa (hb); replace HI0 := sqa (hi)) | ((with_reducible refine sqc 122 rfl ?_); refine sqv (some 29) func122 (F23.c kj2 t9 t10 t12 _ A5.1) fun w9 hb => ?_; replace HK := sqa (KeepBut.trans Z79 (KeepBut.of_below hb g none) (.inl rfl)); replace HB := sqa (below_step (Z80 HI0) hb); replace HI0 := sqa (IsS131.below (Z78 HI0) hb)))
   go_ret
   exact ⟨Z5, Z78 HI0, Z80 HI0, Z79⟩

def F54.l0 : Nat → List ByteArray → Int → List Int → Int → Int → Int → List (S31) → Option (Int × Int × (List (S31)) × List ByteArray)
 | 0, _, _, _, _, _, _, _ => none
 | k + 1, x6, x7, x0, x1, x2, x3, x4 => if x7 > 0 then ((F58.f k x0 x1).bind fun bt0 => (if x6.length < 8796093022208 then (F54.l0 k (x6 ++ [bt0.1]) (wrap64 (x7 - 1)) x0 bt0.2 x2 x3 x4) else (none))) else ((F28.f k x0 x1 30).bind fun bt1 => (if bt1.1 = true then (if 41 ≤ 17592186044416 then (some (x2, x3, x4, (List.replicate 41 (⟨#[]⟩ : ByteArray)))) else (none)) else (some (x2, x3, x4, x6))))
def F54.f (k : Nat) (l0 : List Int) : Option (Int × Int × (List (S31)) × List ByteArray) := (F93.f l0).bind fun bt0 => ((F24.f k bt0.1 bt0.2 12).bind fun bt1 => ((F1.f k bt0.1 bt1.2.2.2 7).bind fun bt2 => (F54.l0 k (([] : List ByteArray)) bt2.1 bt0.1 bt2.2 bt1.1 bt1.2.1 bt1.2.2.1)))
theorem F54.c (k : Nat) (A0 : Option Addr) (c0 : Nat) (l0 : List Int) (r1 : Int) (r2 : Int) (r3 : List (S31)) (r4 : List ByteArray) (w : World) (hr0 : Kd.C (Kd.int .u8) w A0 l0.length l0) (hc0 : l0.length ≤ c0) (H : F54.f k l0 = some (r1, r2, r3, r4)) :
  Calls prog 52 #[.slice A0 l0.length c0] w fun e w' => ∃ v2_ v3_ : Value, e = .returned (.tuple #[.agg #[.int .i64 r1, .int .i64 r2, v2_], v3_]) ∧ Kd.Q k31 31 w' w.heap.size (fun _ => True) v2_ r3 ∧ Kd.R Kd.string 9 w' w.heap.size (fun _ => True) v3_ r4 ∧ Below w.heap.size w w' := by
 have hu34 := underlying34
 have HR0 := sqa hr0
 have HC0 := sqa hc0
 clear hr0 hc0
 have HB := sqh w
 unfold F54.f at H
 obtain ⟨⟨t0, t1⟩, A2, H⟩ := sqD H
 try dsimp only at H
 obtain ⟨⟨t861, t862, t2, t3⟩, A3, H⟩ := sqD H
 try dsimp only at H
 obtain ⟨y0, hy0⟩ : ∃ y_ : List ByteArray, y_ = (([] : List ByteArray)) := ⟨_, rfl⟩
 replace H : ((F1.f k t0 t3 7).bind fun bt0 => (F54.l0 k y0 bt0.1 t0 bt0.2 t861 t862 t2)) = some (r1, r2, r3, r4) := sqW hy0 H
 have Ny0 := sqa hy0
 clear hy0
 obtain ⟨⟨t4, t5⟩, A4, H⟩ := sqD H
 try dsimp only at H
 have H' := sqa H
 clear H
 go_enter func52, ntmps52
 go_wp2_with (first | ((with_reducible refine sqd 2 rfl ?_); refine sqx0 w (sqB HB) #[.int .i64 0, .int .i64 0, .slice none 0 0] 34 fun g0 w5 B0 E0 HB => ?_) | ((with_reducible refine sqc 66 rfl ?_); refine sqC (some 9) func66 #[.slice A0 l0.length c0] ?_; (with_reducible refine (F93.c _ _ l0 t0 t1 w _ ?side1 ?side2 ?side3 A2.1).mono ?_); (case side1 => repeat (first | (with_reducible first | exact HB.1 | apply below_alloc | apply pw_below_drewN | apply below_drew1 | refine below_set ?_ E0.1) | exact HB.1)); (case side2 => exact HR0.1); (case side3 => exact HC0.1); rintro e w6 ⟨g1, rfl, hi, hb, hb2⟩; refine ⟨_, rfl, ?_⟩; replace HB := sqa (hb); have HI0 := sqa (hi); have N0 := sqa (IsS131.ne_blk hi (blk_below (sqK B0) hb2) (by decide)); have N1 := sqa (Ne.symm (IsS131.ne_blk hi (blk_below (sqK B0) hb2) (by decide))); replace B0 := sqa (blk_below (sqK B0) hb2)) | ((with_reducible refine sqc 67 rfl ?_); refine sqC (some 11) func67 #[.pointer (some ⟨g1, 0, none⟩), .int .i64 12] ?_; (with_reducible refine (F24.c k g1 t0 t1 12 t861 t862 t2 t3 w _ ?side1 ?side2 A3.1).mono ?_); (case side1 => exact Z85 HI0 N0); (case side2 => exact Z84 HI0 E0); rintro e w7 ⟨v0, rfl, ho0, hi, hb, hk⟩; refine ⟨_, rfl, ?_⟩; replace B0 := sqkb hk B0 N1; have O0 := sqa (Kd.Q_lower ho0 (below_size (Z84 HI0 E0))); replace HB := sqa (hb); replace HI0 := sqa (hi); (try clear ho0)) | ((with_reducible refine sqd 5 rfl ?_); refine sqBox (N := 5) (cs := #[.int .i64 0, .int .i64 0, .slice none 0 0]) (t := 34) ?_; intro g2 hg w8 B2 hb; replace O0 := sqa (Kd.Q_below (Z40 O0) hb); have GW0 := sqa ((by rw [hg]; exact (below_size (Z84 HI0 E0)) : w.heap.size ≤ g2)); have E1 := GW0; replace HB := sqa (below_step (Z84 HI0 E0) hb); obtain ⟨N2, N3⟩ := sqM hg B0; replace B0 := sqT B0 hb; have N4 := sqa ((by rw [hg]; exact Nat.ne_of_lt (IsS131.lt (show IsS131 w _ g1 t0 t3 from by repeat (first | (with_reducible first | exact HI0.1 | apply IsS131.alloc | apply IsS131.drewN | apply IsS131.drew | apply IsS131.set_1 | refine IsS131.far ?_ N0.1 _) | exact HI0.1))) : g1 ≠ g2)); have N5 := sqa ((by rw [hg]; exact Nat.ne_of_gt (IsS131.lt (show IsS131 w _ g1 t0 t3 from by repeat (first | (with_reducible first | exact HI0.1 | apply IsS131.alloc | apply IsS131.drewN | apply IsS131.drew | apply IsS131.set_1 | refine IsS131.far ?_ N0.1 _) | exact HI0.1))) : g2 ≠ g1)); replace HI0 := sqa (IsS131.below (Z85 HI0 N0) hb); clear hb hg; have := sqn4 N3 N2 N5 N4; have := sqY3 B2; obtain ⟨Ao0, co0, eo0, _⟩ := Kd.Q_slice O0.1; subst eo0) | ((with_reducible refine sqd 12 rfl ?_); refine Kd.R_lit Kd.string _ 9 ?hg (N := 12) ?hd (xs := ([] : List ByteArray)) (inner := []) (ok := fun _ => True) (okp := fun _ => True) ?hr ?hp (fun _ hk => hk) trivial (Below.refl _ _) (Nat.le_refl _) (by simp) ?_; (case hd => rfl); (case hg => rfl); (case hr => exact Z17); (case hp => exact Z24); intro v1 w1 ho1 hb hg_ hnew_; clear hg_ hnew_; (first | rw [← Ny0.out] at ho1 | (simp only [Int.reduceToNat] at ho1; rw [← Ny0.out] at ho1)); replace O0 := sqa (Kd.Q_below (by (with_reducible repeat (first | apply Kd.Q_alloc | apply Kd.Q_drewN | apply Kd.Q_drew)); exact (Kd.Q_mono (sqq3 O0.1 B2.1) (fun _ h_ => h_.1))) hb); have O1 := sqa (Kd.R_lower ho1 (below_size (Z88 HI0 E0 E1))); replace B0 := sqH N2 B0 hb; replace B2 := sqa (blk_below (g := g2) (o := .cells #[.int .i64 t861, .int .i64 t862, .slice Ao0 t2.length co0] 34 (0, 0)) (Z98 B2) hb); replace HB := sqa (below_step (Z88 HI0 E0 E1) hb); replace HI0 := sqa (IsS131.below (show IsS131 w (((w8.setCell ⟨g2, 0, none⟩ (.int .i64 t861)).setCell ⟨g2, 1, none⟩ (.int .i64 t862)).setCell ⟨g2, 2, none⟩ (.slice Ao0 t2.length co0)) g1 t0 t3 from by repeat (first | (with_reducible first | exact HI0.1 | apply IsS131.alloc | apply IsS131.drewN | apply IsS131.drew | apply IsS131.set_1 | refine IsS131.far ?_ N0.1 _ | refine IsS131.far ?_ N4.1 _) | exact HI0.1)) hb); clear hb ho1) | ((with_reducible refine sqc 82 rfl ?_); refine sqvs (some 14) func82 (args := #[.pointer (some ⟨g1, 0, none⟩), .int .i64 7]) (F1.c k g1 t0 t3 7 t4 t5 w _ (Z86 HI0 N0 N4) (Z88 HI0 E0 E1) A4.1) fun w2 hi hb hk => ?_; replace B0 := sqkb hk B0 N1; replace O0 := sqa (Kd.Q_mono (Kd.Q_keep (IsS131.apartQ (show IsS131 w _ g1 t0 t3 from by repeat (first | (with_reducible first | exact HI0.1 | apply IsS131.alloc | apply IsS131.drewN | apply IsS131.drew | apply IsS131.set_1 | refine IsS131.far ?_ N0.1 _ | refine IsS131.far ?_ N4.1 _) | exact HI0.1)) (Z40 O0) (by decide)) hk (fun _ h => h.2)) (fun _ h => h.1)); replace B2 := sqkb hk B2 N5; replace O1 := sqa (Kd.R_mono (Kd.R_keep (IsS131.apart (show IsS131 w _ g1 t0 t3 from by repeat (first | (with_reducible first | exact HI0.1 | apply IsS131.alloc | apply IsS131.drewN | apply IsS131.drew | apply IsS131.set_1 | refine IsS131.far ?_ N0.1 _ | refine IsS131.far ?_ N4.1 _) | exact HI0.1)) (sqR O1) (by decide)) hk (fun _ h => h.2)) (fun _ h => h.1)); replace HB := sqa (hb); replace HI0 := sqa (hi)))
 go_loopg [6, 7] k (fun kq v6 v7 w' => ∃ (x6_1 : List ByteArray) (x7_1 : Int) (x0 : Int), v7 = .int .i64 x7_1 ∧ Aside0 (F54.l0 kq x6_1 x7_1 t0 x0 t861 t862 t2 = some (r1, r2, r3, r4)) ∧ Aside0 (kq ≤ k) ∧ Aside0 (Kd.R Kd.string 9 w' w.heap.size (fun _ => True) v6 x6_1) ∧ Aside0 (Kd.Q k31 31 w' w.heap.size (fun _ => True) (.slice Ao0 t2.length co0) t2) ∧ Aside0 (w'.heap[g0]? = some (.cells #[.int .i64 0, .int .i64 0, (.slice none 0 0)] 34 (0, 0))) ∧ Aside0 (w'.heap[g2]? = some (.cells #[.int .i64 t861, .int .i64 t862, (.slice Ao0 t2.length co0)] 34 (0, 0))) ∧ Aside0 (IsS131 w w' g1 t0 x0) ∧ Aside0 (Below w.heap.size w w'))
 case atStart => exact ⟨(y0), (t4), (t5), Z1, H', ⟨Nat.le_refl _⟩, ⟨sqR O1⟩, ⟨Z40 O0⟩, ⟨sqK B0⟩, ⟨sqK B2⟩, ⟨Z86 HI0 N0 N4⟩, ⟨Z88 HI0 E0 E1⟩⟩
 case round =>
  clear H'
  obtain ⟨x6_1, x7_1, x0, rfl, HA, HK1, O2, O3, B0, B2, HI0, HB⟩ := hrel
  cases gk with
  | zero => exact absurd HA.out (by simp [F54.l0])
  | succ k1 =>
   have H := HA.out
   clear HA
   simp only [F54.l0] at H
   obtain ⟨c2, H⟩ | ⟨c2, H⟩ := sqi3g H
   ·obtain ⟨⟨t6, t7⟩, A1, H⟩ := sqD H
    try dsimp only at H
    obtain ⟨c3, H⟩ := sqI H
    have LMc0 := sqa c3
    clear c3
    obtain ⟨y1, hy1⟩ : ∃ y_ : List ByteArray, y_ = (x6_1 ++ [t6]) := ⟨_, rfl⟩
    replace H : (F54.l0 k1 y1 (wrap64 (x7_1 - 1)) t0 t7 t861 t862 t2) = some (r1, r2, r3, r4) := sqW hy1 H
    have Ny1 := sqa hy1
    clear hy1
    have H' := sqa H
    clear H
    go_wp2_with (first | ((with_reducible refine sqc 103 rfl ?_); refine sqvs (some 21) func103 (args := #[.pointer (some ⟨g1, 0, none⟩)]) (F58.c k1 g1 t0 x0 t6 t7 w _ (Z86 HI0 N0 N4) (Z88 HI0 E0 E1) A1.1) fun w3 hi hb hk => ?_; replace O2 := sqa (Kd.R_mono (Kd.R_keep (IsS131.apart (show IsS131 w _ g1 t0 x0 from by repeat (first | (with_reducible first | exact HI0.1 | apply IsS131.alloc | apply IsS131.drewN | apply IsS131.drew | apply IsS131.set_1 | refine IsS131.far ?_ N0.1 _ | refine IsS131.far ?_ N4.1 _) | exact HI0.1)) (sqR O2) (by decide)) hk (fun _ h => h.2)) (fun _ h => h.1)); replace O3 := sqa (Kd.Q_mono (Kd.Q_keep (IsS131.apartQ (show IsS131 w _ g1 t0 x0 from by repeat (first | (with_reducible first | exact HI0.1 | apply IsS131.alloc | apply IsS131.drewN | apply IsS131.drew | apply IsS131.set_1 | refine IsS131.far ?_ N0.1 _ | refine IsS131.far ?_ N4.1 _) | exact HI0.1)) (Z40 O3) (by decide)) hk (fun _ h => h.2)) (fun _ h => h.1)); replace B0 := sqkb hk B0 N1; replace B2 := sqkb hk B2 N5; replace HB := sqa (hb); replace HI0 := sqa (hi)) | ((with_reducible refine gate_builtin (b := .append) (xs := #[.tmp 19, .tmp 22]) rfl ?_); at_builtin; refine Kd.R_append Kd.string (w0 := w) w.heap.size rfl (.tmp 19) (.tmp 22) 73 9 (.string ⟨#[]⟩) 16 rfl underlying73 info9 rfl (by decide) (by omega) u6 x6_1 t6 [.string t6] (fun _ => True) (fun _ => False) rfl rfl ?aP (fun _ hk => hk.elim) ?aF ?aO ?aB ?aS ?aL ?_; (case aP => exact rfl); (case aB => exact (Z88 HI0 E0 E1)); (case aF => exact Z25); (case aO => exact (sqR O2)); (case aS => exact (below_size (Z88 HI0 E0 E1))); (case aL => exact Z2 LMc0); intro v2 w4 ho hb hg hat; rw [← Ny1.out] at ho; replace O3 := sqa (Kd.Q_over' (Z40 O3) (Kd.R_typed (sqR O2)) (by decide) hg); replace B0 := sqa (blk_grown (sqK B0) hg (Kd.R_ne O2.1 B0.1 (by decide))); replace B2 := sqa (blk_grown (sqK B2) hg (Kd.R_ne O2.1 B2.1 (by decide))); replace HI0 := sqa (IsS131.grown (Z86 HI0 N0 N4) hg (IsS131.own_ne HI0.1 O2.1 (by decide))); replace HB := sqa (hb); have O4 := sqa (ho); clear O2; clear ho hb hg hat))
    go_roundg k1
    case measure => have := HK1.out; omega
    case rel => exact ⟨(y1), (wrap64 (x7_1 - 1)), (t7), Z1, H', ⟨Z2 HK1⟩, ⟨sqR O4⟩, ⟨Z40 O3⟩, ⟨sqK B0⟩, ⟨sqK B2⟩, ⟨Z86 HI0 N0 N4⟩, ⟨Z88 HI0 E0 E1⟩⟩
   obtain ⟨⟨t8, t9⟩, A5, H⟩ := sqD H
   try dsimp only at H
   obtain rfl | rfl := sqt t8
   ·rw [if_pos rfl] at H
    obtain ⟨c6, c7, H⟩ := sqJ3 H
    obtain ⟨y2, hy2⟩ : ∃ y_ : List ByteArray, y_ = (List.replicate 41 (⟨#[]⟩ : ByteArray)) := ⟨_, rfl⟩
    replace H : (some (t861, t862, t2, y2)) = some (r1, r2, r3, r4) := sqW hy2 H
    have Ny2 := sqa hy2
    clear hy2
    obtain ⟨rfl, rfl, rfl, rfl⟩ := sqO4 H
    go_wp2_with (first | ((with_reducible refine sqc 74 rfl ?_); refine sqvs (some 25) func74 (args := #[.pointer (some ⟨g1, 0, none⟩), .int .i64 30]) (F28.c k1 g1 t0 x0 30 true t9 w _ (Z86 HI0 N0 N4) (Z88 HI0 E0 E1) A5.1) fun w9 hi hb hk => ?_; replace O2 := sqa (Kd.R_mono (Kd.R_keep (IsS131.apart (show IsS131 w _ g1 t0 x0 from by repeat (first | (with_reducible first | exact HI0.1 | apply IsS131.alloc | apply IsS131.drewN | apply IsS131.drew | apply IsS131.set_1 | refine IsS131.far ?_ N0.1 _ | refine IsS131.far ?_ N4.1 _) | exact HI0.1)) (sqR O2) (by decide)) hk (fun _ h => h.2)) (fun _ h => h.1)); replace O3 := sqa (Kd.Q_mono (Kd.Q_keep (IsS131.apartQ (show IsS131 w _ g1 t0 x0 from by repeat (first | (with_reducible first | exact HI0.1 | apply IsS131.alloc | apply IsS131.drewN | apply IsS131.drew | apply IsS131.set_1 | refine IsS131.far ?_ N0.1 _ | refine IsS131.far ?_ N4.1 _) | exact HI0.1)) (Z40 O3) (by decide)) hk (fun _ h => h.2)) (fun _ h => h.1)); replace B0 := sqkb hk B0 N1; replace B2 := sqkb hk B2 N5; replace HB := sqa (hb); replace HI0 := sqa (hi)) | ((with_reducible refine sqd 26 rfl ?_); refine Kd.R_make Kd.string _ 9 rfl (N := 26) rfl 73 _ _ rfl 41 rfl rfl underlying73 (.string ⟨#[]⟩) 16 info9 rfl (by decide) (by omega) (⟨#[]⟩ : ByteArray) (ok := fun _ => True) (okp := fun _ => True) rfl (fun _ hk => hk) trivial (by omega) (by omega) (Below.refl _ _) (Nat.le_refl _) ?_; intro v3 w25 ho2 hb hg_ hnew_; clear hg_ hnew_; (first | rw [← Ny2.out] at ho2 | (simp only [Int.reduceToNat] at ho2; rw [← Ny2.out] at ho2)); replace O3 := sqa (Kd.Q_below (Z40 O3) hb); have O5 := sqa (Kd.R_lower (Kd.R_new' ho2 (Kd.R_lt (sqR O2))) (below_size (Z88 HI0 E0 E1))); replace O2 := sqa (Kd.R_elder' (sqR O2) (Kd.R_base ho2) hb); obtain ⟨B0, B2⟩ := sqT2 hb B0 B2; replace HB := sqa (below_step (Z88 HI0 E0 E1) hb); replace HI0 := sqa (IsS131.below (Z86 HI0 N0 N4) hb); clear hb ho2; have := sqn4 N3 N2 N5 N4; have := sqY3 B2; have := sqn2 N1 N0; have := sqY3 B0))
    refine sqE g0 34 #[.int .i64 t861, .int .i64 t862, .slice Ao0 t2.length co0] (Z98 B0) underlying34 ?_
    exact ⟨_, _, Z5, Z99 O3 B0, Z100 O5 B0, Z88 HI0 E0 E1⟩
   rw [if_neg sqF] at H
   obtain ⟨rfl, rfl, rfl, rfl⟩ := sqO4 H
   go_wp2_with (first | ((with_reducible refine sqc 74 rfl ?_); refine sqvs (some 25) func74 (args := #[.pointer (some ⟨g1, 0, none⟩), .int .i64 30]) (F28.c k1 g1 t0 x0 30 false t9 w _ (Z86 HI0 N0 N4) (Z88 HI0 E0 E1) A5.1) fun w32 hi hb hk => ?_; replace O2 := sqa (Kd.R_mono (Kd.R_keep (IsS131.apart (show IsS131 w _ g1 t0 x0 from by repeat (first | (with_reducible first | exact HI0.1 | apply IsS131.alloc | apply IsS131.drewN | apply IsS131.drew | apply IsS131.set_1 | refine IsS131.far ?_ N0.1 _ | refine IsS131.far ?_ N4.1 _) | exact HI0.1)) (sqR O2) (by decide)) hk (fun _ h => h.2)) (fun _ h => h.1)); replace O3 := sqa (Kd.Q_mono (Kd.Q_keep (IsS131.apartQ (show IsS131 w _ g1 t0 x0 from by repeat (first | (with_reducible first | exact HI0.1 | apply IsS131.alloc | apply IsS131.drewN | apply IsS131.drew | apply IsS131.set_1 | refine IsS131.far ?_ N0.1 _ | refine IsS131.far ?_ N4.1 _) | exact HI0.1)) (Z40 O3) (by decide)) hk (fun _ h => h.2)) (fun _ h => h.1)); replace B0 := sqkb hk B0 N1; replace B2 := sqkb hk B2 N5; replace HB := sqa (hb); replace HI0 := sqa (hi); have := sqn4 N3 N2 N5 N4; have := sqY3 B2; have := sqn2 N1 N0; have := sqY3 B0))
   refine sqE g0 34 #[.int .i64 t861, .int .i64 t862, .slice Ao0 t2.length co0] (Z98 B0) underlying34 ?_
   exact ⟨_, _, Z5, Z99 O3 B0, Z100 O2 B0, Z88 HI0 E0 E1⟩

def F41.l0 : Nat → List ByteArray → List ByteArray → Int → Option (Bool)
 | 0, _, _, _ => none
 | k + 1, x0, x1, x5 => if x5 < (x0.length : Int) then (if 0 ≤ x5 then (if x5 < (x1.length : Int) then (if (rdOf ByteArray.empty x0 x5).toList = (rdOf ByteArray.empty x1 x5).toList then (F41.l0 k x0 x1 (wrap64 (x5 + 1))) else (some false)) else (none)) else (none)) else (some true)
def F41.f (k : Nat) (l0 : List ByteArray) (l1 : List ByteArray) : Option (Bool) := if (l0.length : Int) = (l1.length : Int) then (F41.l0 k l0 l1 0) else (some false)
theorem F41.c (k : Nat) (A0 : Option Addr) (c0 : Nat) (l0 : List ByteArray) (A1 : Option Addr) (c1 : Nat) (l1 : List ByteArray) (r : Bool) (w : World) (hr0 : Kd.C Kd.string w A0 l0.length l0) (hc0 : l0.length ≤ c0) (hr1 : Kd.C Kd.string w A1 l1.length l1) (hc1 : l1.length ≤ c1) (H : F41.f k l0 l1 = some r) :
  Calls prog 53 #[.slice A0 l0.length c0, .slice A1 l1.length c1] w fun e w' => e = .returned (.bool r) ∧ Drawn0 w w' := by
 have HR0 := sqa hr0
 have HC0 := sqa hc0
 clear hr0 hc0
 have HR1 := sqa hr1
 have HC1 := sqa hc1
 clear hr1 hc1
 unfold F41.f at H
 obtain ⟨c3, H⟩ | ⟨c3, H⟩ := sqi2 H
 ·have c3b0 : ((l0.length : Int) == (l1.length : Int)) = true := sqe1 c3
  have c3b1 : ((l0.length : Int) != (l1.length : Int)) = false := sqn0 c3
  have c3b2 : (l0.length == l1.length) = true := by first | simpa using c3 | (simp at c3 ⊢; omega)
  clear c3
  have H' := sqa H
  clear H
  go_enter func53, ntmps53
  go_wp2
  repeat (go_quiet (fail); try go_wp2)
  go_loopg [5] k (fun kq v5 w' => ∃ (x5_1 : Int), v5 = .int .i64 x5_1 ∧ Aside0 (F41.l0 kq l0 l1 x5_1 = some r) ∧ Aside0 (kq ≤ k) ∧ Drawn0 w w')
  case atStart => exact ⟨(0), Z1, H', ⟨Nat.le_refl _⟩, Z15⟩
  case round =>
   clear H'
   obtain ⟨x5_1, rfl, HA, HK1, ⟨m1, rfl⟩⟩ := hrel
   cases gk with
   | zero => exact absurd HA.out (by simp [F41.l0])
   | succ k1 =>
    have H := HA.out
    clear HA
    simp only [F41.l0] at H
    obtain ⟨c4b0, H⟩ | ⟨c4b0, H⟩ := sqi3 H
    ·obtain ⟨c5b0, H⟩ := sqJ2 H
     obtain ⟨c6b0, H⟩ := sqJ2 H
     obtain ⟨c7b0, c7b1, H⟩ | ⟨c7b0, c7b1, c7, H⟩ := sqi4 H
     ·have H' := sqa H
      clear H
      have p0 : 0 ≤ (x5_1 : Int) := of_decide_eq_true Z16
      have q0 : x5_1 < (l0.length : Int) := of_decide_eq_true Z16
      obtain ⟨ad0, e0, hx0⟩ := Kd.at_string HR0.1 x5_1 p0 q0
      cases e0
      replace p0 := eq_true p0
      replace q0 := eq_true q0
      have p1 : 0 ≤ (x5_1 : Int) := of_decide_eq_true Z16
      have q1 : x5_1 < (l1.length : Int) := of_decide_eq_true Z16
      obtain ⟨ad1, e1, hx1⟩ := Kd.at_string HR1.1 x5_1 p1 q1
      cases e1
      replace p1 := eq_true p1
      replace q1 := eq_true q1
      go_wp2
      repeat (go_quiet (fail); try go_wp2)
      go_roundg k1
      case measure => have := HK1.out; omega
      case rel => exact ⟨(wrap64 (x5_1 + 1)), Z1, H', ⟨Z2 HK1⟩, Z15⟩
     obtain rfl := sqo H
     have p0 : 0 ≤ (x5_1 : Int) := of_decide_eq_true Z16
     have q0 : x5_1 < (l0.length : Int) := of_decide_eq_true Z16
     obtain ⟨ad0, e0, hx0⟩ := Kd.at_string HR0.1 x5_1 p0 q0
     cases e0
     replace p0 := eq_true p0
     replace q0 := eq_true q0
     have p1 : 0 ≤ (x5_1 : Int) := of_decide_eq_true Z16
     have q1 : x5_1 < (l1.length : Int) := of_decide_eq_true Z16
     obtain ⟨ad1, e1, hx1⟩ := Kd.at_string HR1.1 x5_1 p1 q1
     cases e1
     replace p1 := eq_true p1
     replace q1 := eq_true q1
     go_wp2
     repeat (go_quiet (fail); try go_wp2)
     go_ret
     exact ⟨Z1, Z15⟩
    obtain rfl := sqo H
    go_wp2
    repeat (go_quiet (fail); try go_wp2)
    go_ret
    exact ⟨Z1, Z15⟩
 have c3b0 : ((l0.length : Int) == (l1.length : Int)) = false := sqe0 c3
 have c3b1 : ((l0.length : Int) != (l1.length : Int)) = true := sqn1 c3
 have c3b2 : (l0.length == l1.length) = false := by first | simpa using c3 | (simp at c3 ⊢; omega)
 obtain rfl := sqo H
 go_enter func53, ntmps53
 go_wp2
 repeat (go_quiet (fail); try go_wp2)
 go_ret
 exact ⟨Z1, Z15⟩

def F89.f (k : Nat) (a0_0 : Int) (a0_1 : Int) : Option (ByteArray × Bool) := (F39.f k a0_0 a0_1 12).bind fun t0 => (if t0 = true then ((F37.f k a0_0 a0_1).bind fun t1 => (some (t1, true))) else (some ((⟨#[]⟩ : ByteArray), false)))
theorem F89.c (k : Nat) (a0_0 : Int) (a0_1 : Int) (r1 : ByteArray) (r2 : Bool) (w : World) (H : F89.f k a0_0 a0_1 = some (r1, r2)) :
  Calls prog 54 #[.agg #[.int .i64 a0_0, .int .i64 a0_1]] w fun e w' => e = .returned (.tuple #[.string r1, .bool r2]) ∧ Below w.heap.size w w' := by
 have hu31 := underlying31
 have HB := sqh w
 unfold F89.f at H
 obtain ⟨t0, A2, H⟩ := sqD H
 obtain rfl | rfl := sqt t0
 ·rw [if_pos rfl] at H
  obtain ⟨t1, A4, H⟩ := sqD H
  obtain ⟨rfl, rfl⟩ := sqO2 H
  go_enter func54, ntmps54
  go_wp2_with (first | ((with_reducible refine sqd 1 rfl ?_); refine sqx0 w (sqB HB) #[.int .i64 a0_0, .int .i64 a0_1] 31 fun g0 w5 B0 E0 HB => ?_; have := sqY2 B0) | ((with_reducible refine sqc 104 rfl ?_); refine sqv (some 5) func104 (F39.c k a0_0 a0_1 12 true _ A2.1) fun w7 hb => ?_; replace B0 := sqT B0 hb; replace HB := sqS (sqB1 HB E0) hb; have := sqY2 B0) | ((with_reducible refine sqc 105 rfl ?_); refine sqv (some 8) func105 (F37.c k a0_0 a0_1 t1 _ A4.1) fun w9 hb => ?_; replace B0 := sqT B0 hb; replace HB := sqS (sqB1 HB E0) hb))
  go_ret2
  exact ⟨Z5, sqB1 HB E0⟩
 rw [if_neg sqF] at H
 obtain ⟨rfl, rfl⟩ := sqO2 H
 go_enter func54, ntmps54
 go_wp2_with (first | ((with_reducible refine sqd 1 rfl ?_); refine sqx0 w (sqB HB) #[.int .i64 a0_0, .int .i64 a0_1] 31 fun g0 w0 B0 E0 HB => ?_; have := sqY2 B0) | ((with_reducible refine sqc 104 rfl ?_); refine sqv (some 5) func104 (F39.c k a0_0 a0_1 12 false _ A2.1) fun w1 hb => ?_; replace B0 := sqT B0 hb; replace HB := sqS (sqB1 HB E0) hb))
 go_ret2
 exact ⟨Z5, sqB1 HB E0⟩

end Go.Proofs.YtofmlbgfcohhoaaGreatDoor.PFnDeskSay
