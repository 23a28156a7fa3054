import Derived.Test.YtofmlbgfcohhoaaGreatDoorPFnDeskLinex18
import Derived.Test.YtofmlbgfcohhoaaGreatDoorPFnDeskLinex26
set_option maxHeartbeats 8000000
set_option maxRecDepth 100000
namespace Go.Proofs.YtofmlbgfcohhoaaGreatDoor.PFnDeskLine
open Go.RowKit Go.Proofs.YtofmlbgfcohhoaaGreatDoorW.PrintWords Go.Proofs.YtofmlbgfcohhoaaGreatDoorW.PrintLast Go.Proofs.YtofmlbgfcohhoaaGreatDoorW.PrintMore Go.Proofs.YtofmlbgfcohhoaaGreatDoor.Lib Go.Proofs.Tryz
attribute [local go_sem] max2_int min2_int max_two min_two max_three min_three max_four min_four
set_option linter.unusedVariables false
set_option linter.unusedSimpArgs false

/-! ### spec_l20Line: function 103 -/
def spec_l20Line.j0 : Nat → Int → Bool → List Int → Int → Option (ByteArray × Int)
 | 0, _, _, _, _ => none
 | k + 1, x4, x5, x0, x1 => if x5 = true then ((some (([(⟨#[116, 101, 120, 116]⟩ : ByteArray), (⟨#[109, 111, 118, 101, 115]⟩ : ByteArray), (⟨#[116, 101, 114, 109, 115]⟩ : ByteArray), (⟨#[99, 114, 111, 115, 115, 105, 110, 103, 115]⟩ : ByteArray), (⟨#[101, 110, 100, 115]⟩ : ByteArray), (⟨#[114, 105, 110, 103, 115]⟩ : ByteArray), (⟨#[108, 105, 110, 107]⟩ : ByteArray)] : List ByteArray) : List ByteArray)).bind fun y0 => ((spec_l20Rd_pick.f k x0 x1 7).bind fun bt0 => (if 0 ≤ bt0.1 then (if bt0.1 < (y0.length : Int) then (some (rdOf ByteArray.empty y0 bt0.1, bt0.2)) else (none)) else (none)))) else (if x4 = 2 then ((some (([(⟨#[]⟩ : ByteArray), (⟨#[100, 97, 110, 99, 101]⟩ : ByteArray), (⟨#[100, 97, 110, 99, 101, 32]⟩ : ByteArray), (⟨#[100, 97, 110, 99, 101, 32, 120]⟩ : ByteArray), (⟨#[116, 97, 107, 101]⟩ : ByteArray), (⟨#[116, 97, 107, 101, 32, 50, 47, 52]⟩ : ByteArray), (⟨#[99, 111, 108, 111, 117, 114, 115]⟩ : ByteArray), (⟨#[99, 111, 108, 111, 117, 114, 115, 32, 120]⟩ : ByteArray), (⟨#[99, 111, 108, 111, 117, 114, 115, 32, 48]⟩ : ByteArray), (⟨#[99, 111, 108, 111, 117, 114, 115, 32, 49, 51]⟩ : ByteArray), (⟨#[32, 116, 101, 120, 116]⟩ : ByteArray), (⟨#[109, 105, 114, 114, 111, 114, 32, 49]⟩ : ByteArray)] : List ByteArray) : List ByteArray)).bind fun y1 => ((spec_l20Rd_pick.f k x0 x1 12).bind fun bt1 => (if 0 ≤ bt1.1 then (if bt1.1 < (y1.length : Int) then (some (rdOf ByteArray.empty y1 bt1.1, bt1.2)) else (none)) else (none)))) else (if x4 = 3 then ((spec_l20Rd_pick.f k x0 x1 12).bind fun bt2 => ((spec_l1Number.f k (wrap64 (1 + bt2.1))).bind fun t0 => (if 8 + t0.size ≤ 9223372036854775807 then (some ((⟨#[99, 111, 108, 111, 117, 114, 115, 32]⟩ : ByteArray) ++ t0, bt2.2)) else (none)))) else ((spec_l20Deed.f k x0 x1).bind fun bt3 => ((spec_DeedText.f k bt3.1 bt3.2.1).bind fun t1 => (some (t1, bt3.2.2))))))
def spec_l20Line.f (k : Nat) (s0_0 : List Int) (s0_1 : Int) : Option (ByteArray × Int) := (spec_l20Rd_pick.f k s0_0 s0_1 6).bind fun bt0 => (if bt0.1 = 0 then (spec_l20Line.j0 k bt0.1 (bt0.1 == 0) s0_0 bt0.2) else (spec_l20Line.j0 k bt0.1 (bt0.1 == 1) s0_0 bt0.2))
abbrev spec_l20Line.M (k : Nat) : Prop := (∀ y0 y1 y2 y3, LeO (spec_l20Line.j0 k y0 y1 y2 y3) (spec_l20Line.j0 (k + 1) y0 y1 y2 y3))
theorem spec_l20Line.mono_t : ∀ k, spec_l20Line.M k → spec_l20Line.M (k + 1) ∧ ∀ a0 a1, LeO (spec_l20Line.f k a0 a1) (spec_l20Line.f (k + 1) a0 a1) := by
  rintro k ih0
  refine ⟨?_, ?_⟩ <;> (try unfold spec_l20Line.M) <;> intros <;> (first | unfold spec_l20Line.j0 | unfold spec_l20Line.f) <;> repeat' (with_reducible first | exact ih0 _ _ _ _ | exact spec_DeedText.mono _ _ _ | exact spec_l1Number.mono _ _ | exact spec_l20Deed.mono _ _ _ | exact spec_l20Rd_pick.mono _ _ _ _ | exact LeO.refl _ | exact LeO.none _ | refine LeO.ite ?_ ?_ | refine LeO.bind ?_ fun _ => ?_)
theorem spec_l20Line.mono_l : ∀ k, spec_l20Line.M k
 | 0 => fun _ _ _ _ r h => by simp [spec_l20Line.j0] at h
 | k + 1 => (spec_l20Line.mono_t k (spec_l20Line.mono_l k)).1
theorem spec_l20Line.mono a0 a1 k : LeO (spec_l20Line.f k a0 a1) (spec_l20Line.f (k + 1) a0 a1) := (spec_l20Line.mono_t k (spec_l20Line.mono_l k)).2 a0 a1
theorem spec_l20Line.calls (k : Nat) (g : Nat) (s0_0 : List Int) (s0_1 : Int) (r1 : ByteArray) (r2 : Int) (w0 w : World) (hI : IsS131 w0 w g s0_0 s0_1) (hB : Below w0.heap.size w0 w) (H : spec_l20Line.f k s0_0 s0_1 = some (r1, r2)) :
  Calls prog 103 #[.pointer (some ⟨g, 0, none⟩)] w fun e w' => e = .returned (.string r1) ∧ IsS131 w0 w' g s0_0 r2 ∧ Below w0.heap.size w0 w' ∧ KeepBut w w' g none := by
 have HI0 := sqa hI
 have HK := sqa (KeepBut.refl w g none)
 have HL := sqa hB.size
 clear hI
 have HW0 := sqa hB.size
 have HB := sqa hB
 clear hB
 unfold spec_l20Line.f at H
 obtain ⟨⟨t0, t1⟩, A2, H⟩ := sqD H
 try dsimp only at H
 have HC3 := sqa H
 clear H
 go_enter func103, ntmps103
 go_upto_if 5 with (first | ((with_reducible refine sqc 82 rfl ?_); refine sqC (some 4) func82 #[.pointer (some ⟨g, 0, none⟩), .int .i64 6] ?_; (with_reducible refine (spec_l20Rd_pick.calls k g s0_0 s0_1 6 t0 t1 w0 _ ?side1 ?side2 A2.1).mono ?_); (case side1 => exact Z66 HI0); (case side2 => exact Z68 HI0); rintro e w4 ⟨rfl, hi, hb, hk⟩; refine ⟨_, rfl, ?_⟩; replace HK := sqa (KeepBut.trans Z67 hk (.inl rfl)); replace HB := sqa (hb); replace HI0 := sqa (hi)))
 (try simp only [Act.put, List.setIfInBounds_toArray, List.set_cons_zero, List.set_cons_succ])
 go_cut [5] (fun v5 wc => ∃ (kq : Nat) (x5_2 : Bool), v5 = .bool x5_2 ∧ Aside0 (spec_l20Line.j0 kq t0 x5_2 s0_0 t1 = some (r1, r2)) ∧ Aside0 (kq ≤ k) ∧ Aside0 (IsS131 w0 wc g s0_0 t1) ∧ Aside0 (KeepBut w wc g none) ∧ Aside0 (Below w0.heap.size w0 wc))
 case first =>
  have H := HC3.1
  clear HC3
  by_cases c5 : t0 = 0
  ·rw [if_pos c5] at H
   have c5b0 : (t0 == 0) = true := sqe1 c5
   have c5b1 : (t0 != 0) = false := sqn0 c5
   clear c5
   (first | rw [c5b0] | (simp only [i64_w, i32_w]; rw [c5b0]) | skip)
   have H' := sqa H
   clear H
   go_wp2
   go_meet
   case rel => exact ⟨_, ((t0 == 0)), Z1, H', ⟨Z11⟩, ⟨Z66 HI0⟩, ⟨Z67⟩, ⟨Z68 HI0⟩⟩
  rw [if_neg c5] at H
  have c5b0 : (t0 == 0) = false := sqe0 c5
  have c5b1 : (t0 != 0) = true := sqn1 c5
  (first | rw [c5b0] | (simp only [i64_w, i32_w]; rw [c5b0]) | skip)
  have H' := sqa H
  clear H
  go_wp2
  go_meet
  case rel => exact ⟨_, ((t0 == 1)), Z1, H', ⟨Z11⟩, ⟨Z66 HI0⟩, ⟨Z67⟩, ⟨Z68 HI0⟩⟩
 case rest =>
  clear HC3
  obtain ⟨kq, x5_2, rfl, HA, HJ2, HI0, HK, HB⟩ := hcut
  cases kq with
  | zero => exact absurd HA.out (by simp [spec_l20Line.j0])
  | succ kj2 =>
   have H := HA.out
   clear HA
   simp only [spec_l20Line.j0] at H
   by_cases c6 : x5_2 = true
   ·subst c6
    rw [if_pos rfl] at H
    obtain ⟨y0, hy0⟩ : ∃ y_ : List ByteArray, y_ = (([(⟨#[116, 101, 120, 116]⟩ : ByteArray), (⟨#[109, 111, 118, 101, 115]⟩ : ByteArray), (⟨#[116, 101, 114, 109, 115]⟩ : ByteArray), (⟨#[99, 114, 111, 115, 115, 105, 110, 103, 115]⟩ : ByteArray), (⟨#[101, 110, 100, 115]⟩ : ByteArray), (⟨#[114, 105, 110, 103, 115]⟩ : ByteArray), (⟨#[108, 105, 110, 107]⟩ : ByteArray)] : List ByteArray)) := ⟨_, rfl⟩
    replace H : ((spec_l20Rd_pick.f kj2 s0_0 t1 7).bind fun bt0 => (if 0 ≤ bt0.1 then (if bt0.1 < (y0.length : Int) then (some (rdOf ByteArray.empty y0 bt0.1, bt0.2)) else (none)) else (none))) = some (r1, r2) := sqW hy0 H
    have Ny0 := sqa hy0
    clear hy0
    obtain ⟨⟨t2, t3⟩, A7, H⟩ := sqD H
    try dsimp only at H
    obtain ⟨c8, H⟩ := sqI H
    have c8b0 : decide (0 ≤ t2) = true := decide_eq_true c8
    clear c8
    obtain ⟨c9, H⟩ := sqI H
    have c9b0 : decide (t2 < (y0.length : Int)) = true := decide_eq_true c9
    clear c9
    obtain ⟨rfl, rfl⟩ := sqO2 H
    go_wp2_with (first | ((with_reducible refine sqd 8 rfl ?_); refine Kd.R_lit Kd.string _ 9 ?hg (N := 8) ?hd (xs := ([(⟨#[116, 101, 120, 116]⟩ : ByteArray), (⟨#[109, 111, 118, 101, 115]⟩ : ByteArray), (⟨#[116, 101, 114, 109, 115]⟩ : ByteArray), (⟨#[99, 114, 111, 115, 115, 105, 110, 103, 115]⟩ : ByteArray), (⟨#[101, 110, 100, 115]⟩ : ByteArray), (⟨#[114, 105, 110, 103, 115]⟩ : ByteArray), (⟨#[108, 105, 110, 107]⟩ : ByteArray)] : List ByteArray)) (inner := [.string (⟨#[116, 101, 120, 116]⟩ : ByteArray), .string (⟨#[109, 111, 118, 101, 115]⟩ : ByteArray), .string (⟨#[116, 101, 114, 109, 115]⟩ : ByteArray), .string (⟨#[99, 114, 111, 115, 115, 105, 110, 103, 115]⟩ : ByteArray), .string (⟨#[101, 110, 100, 115]⟩ : ByteArray), .string (⟨#[114, 105, 110, 103, 115]⟩ : ByteArray), .string (⟨#[108, 105, 110, 107]⟩ : ByteArray)]) (ok := fun _ => True) (okp := fun _ => True) ?hr ?hp (fun _ hk => hk) trivial (Below.refl _ _) (Nat.le_refl _) (by simp) ?_; (case hd => rfl); (case hg => rfl); (case hr => exact Z17); (case hp => exact (Reps.one (show Kd.M Kd.string _ _ _ (⟨#[116, 101, 120, 116]⟩ : ByteArray) [.string (⟨#[116, 101, 120, 116]⟩ : ByteArray)] from rfl) (Reps.one (show Kd.M Kd.string _ _ _ (⟨#[109, 111, 118, 101, 115]⟩ : ByteArray) [.string (⟨#[109, 111, 118, 101, 115]⟩ : ByteArray)] from rfl) (Reps.one (show Kd.M Kd.string _ _ _ (⟨#[116, 101, 114, 109, 115]⟩ : ByteArray) [.string (⟨#[116, 101, 114, 109, 115]⟩ : ByteArray)] from rfl) (Reps.one (show Kd.M Kd.string _ _ _ (⟨#[99, 114, 111, 115, 115, 105, 110, 103, 115]⟩ : ByteArray) [.string (⟨#[99, 114, 111, 115, 115, 105, 110, 103, 115]⟩ : ByteArray)] from rfl) (Reps.one (show Kd.M Kd.string _ _ _ (⟨#[101, 110, 100, 115]⟩ : ByteArray) [.string (⟨#[101, 110, 100, 115]⟩ : ByteArray)] from rfl) (Reps.one (show Kd.M Kd.string _ _ _ (⟨#[114, 105, 110, 103, 115]⟩ : ByteArray) [.string (⟨#[114, 105, 110, 103, 115]⟩ : ByteArray)] from rfl) (Reps.one (show Kd.M Kd.string _ _ _ (⟨#[108, 105, 110, 107]⟩ : ByteArray) [.string (⟨#[108, 105, 110, 107]⟩ : ByteArray)] from rfl) (Reps.none _ _))))))))); intro v0 w1 ho0 hb hg_ hnew_; clear hg_ hnew_; (first | rw [← Ny0.out] at ho0 | (simp only [Int.reduceToNat] at ho0; rw [← Ny0.out] at ho0)); have O0 := sqa (Kd.R_lower ho0 (keep_size (w := w) (g := g) (row := none) Z67)); replace HK := sqa (KeepBut.trans Z67 (KeepBut.of_below hb g none) (.inl rfl)); replace HB := sqa (below_step (Z68 HI0) hb); replace HI0 := sqa (IsS131.below (Z66 HI0) hb); clear hb ho0) | ((with_reducible refine sqc 82 rfl ?_); refine sqC (some 10) func82 #[.pointer (some ⟨g, 0, none⟩), .int .i64 7] ?_; (with_reducible refine (spec_l20Rd_pick.calls kj2 g s0_0 t1 7 t2 t3 w0 _ ?side1 ?side2 A7.1).mono ?_); (case side1 => exact Z66 HI0); (case side2 => exact Z68 HI0); rintro e w2 ⟨rfl, hi, hb, hk⟩; refine ⟨_, rfl, ?_⟩; replace O0 := sqa (Kd.R_mono (Kd.R_keep (IsS131.apart (show IsS131 w0 _ g s0_0 t1 from by repeat (first | (with_reducible first | exact HI0.1 | apply IsS131.alloc | apply IsS131.drewN | apply IsS131.drew | apply IsS131.set_1) | exact HI0.1)) (sqR O0) (by decide)) hk (fun _ h => h.2)) (fun _ h => h.1)); replace HK := sqa (KeepBut.trans Z67 hk (.inl rfl)); replace HB := sqa (hb); replace HI0 := sqa (hi); obtain ⟨Ao0, co0, eo0⟩ := Kd.R_slice O0.1; subst eo0; have p0 : 0 ≤ (t2 : Int) := of_decide_eq_true Z16; have q0 : t2 < (y0.length : Int) := of_decide_eq_true Z16; obtain ⟨ad0, e0, hx0⟩ := Kd.at_string (Kd.R_reads' O0.1).2.2 t2 p0 q0; cases e0; replace p0 := eq_true p0; replace q0 := eq_true q0))
    go_ret
    exact ⟨Z5, Z66 HI0, Z68 HI0, Z67⟩
   obtain rfl := sqb c6
   rw [if_neg sqF] at H
   by_cases c0 : t0 = 2
   ·rw [if_pos c0] at H
    have c1 := sqe1 c0
    have c2 := sqn0 c0
    clear c0
    obtain ⟨y1, hy1⟩ : ∃ y_ : List ByteArray, y_ = (([(⟨#[]⟩ : ByteArray), (⟨#[100, 97, 110, 99, 101]⟩ : ByteArray), (⟨#[100, 97, 110, 99, 101, 32]⟩ : ByteArray), (⟨#[100, 97, 110, 99, 101, 32, 120]⟩ : ByteArray), (⟨#[116, 97, 107, 101]⟩ : ByteArray), (⟨#[116, 97, 107, 101, 32, 50, 47, 52]⟩ : ByteArray), (⟨#[99, 111, 108, 111, 117, 114, 115]⟩ : ByteArray), (⟨#[99, 111, 108, 111, 117, 114, 115, 32, 120]⟩ : ByteArray), (⟨#[99, 111, 108, 111, 117, 114, 115, 32, 48]⟩ : ByteArray), (⟨#[99, 111, 108, 111, 117, 114, 115, 32, 49, 51]⟩ : ByteArray), (⟨#[32, 116, 101, 120, 116]⟩ : ByteArray), (⟨#[109, 105, 114, 114, 111, 114, 32, 49]⟩ : ByteArray)] : List ByteArray)) := ⟨_, rfl⟩
    replace H : ((spec_l20Rd_pick.f kj2 s0_0 t1 12).bind fun bt1 => (if 0 ≤ bt1.1 then (if bt1.1 < (y1.length : Int) then (some (rdOf ByteArray.empty y1 bt1.1, bt1.2)) else (none)) else (none))) = some (r1, r2) := sqW hy1 H
    have Ny1 := sqa hy1
    clear hy1
    obtain ⟨⟨t4, t5⟩, A0, H⟩ := sqD H
    try dsimp only at H
    obtain ⟨c3, H⟩ := sqI H
    have c4 : decide (0 ≤ t4) = true := decide_eq_true c3
    clear c3
    obtain ⟨c7, H⟩ := sqI H
    have c10 : decide (t4 < (y1.length : Int)) = true := decide_eq_true c7
    clear c7
    obtain ⟨rfl, rfl⟩ := sqO2 H
    go_wp2_with (first | ((with_reducible refine sqd 15 rfl ?_); refine Kd.R_lit Kd.string _ 9 ?hg (N := 15) ?hd (xs := ([(⟨#[]⟩ : ByteArray), (⟨#[100, 97, 110, 99, 101]⟩ : ByteArray), (⟨#[100, 97, 110, 99, 101, 32]⟩ : ByteArray), (⟨#[100, 97, 110, 99, 101, 32, 120]⟩ : ByteArray), (⟨#[116, 97, 107, 101]⟩ : ByteArray), (⟨#[116, 97, 107, 101, 32, 50, 47, 52]⟩ : ByteArray), (⟨#[99, 111, 108, 111, 117, 114, 115]⟩ : ByteArray), (⟨#[99, 111, 108, 111, 117, 114, 115, 32, 120]⟩ : ByteArray), (⟨#[99, 111, 108, 111, 117, 114, 115, 32, 48]⟩ : ByteArray), (⟨#[99, 111, 108, 111, 117, 114, 115, 32, 49, 51]⟩ : ByteArray), (⟨#[32, 116, 101, 120, 116]⟩ : ByteArray), (⟨#[109, 105, 114, 114, 111, 114, 32, 49]⟩ : ByteArray)] : List ByteArray)) (inner := [.string (⟨#[]⟩ : ByteArray), .string (⟨#[100, 97, 110, 99, 101]⟩ : ByteArray), .string (⟨#[100, 97, 110, 99, 101, 32]⟩ : ByteArray), .string (⟨#[100, 97, 110, 99, 101, 32, 120]⟩ : ByteArray), .string (⟨#[116, 97, 107, 101]⟩ : ByteArray), .string (⟨#[116, 97, 107, 101, 32, 50, 47, 52]⟩ : ByteArray), .string (⟨#[99, 111, 108, 111, 117, 114, 115]⟩ : ByteArray), .string (⟨#[99, 111, 108, 111, 117, 114, 115, 32, 120]⟩ : ByteArray), .string (⟨#[99, 111, 108, 111, 117, 114, 115, 32, 48]⟩ : ByteArray), .string (⟨#[99, 111, 108, 111, 117, 114, 115, 32, 49, 51]⟩ : ByteArray), .string (⟨#[32, 116, 101, 120, 116]⟩ : ByteArray), .string (⟨#[109, 105, 114, 114, 111, 114, 32, 49]⟩ : ByteArray)]) (ok := fun _ => True) (okp := fun _ => True) ?hr ?hp (fun _ hk => hk) trivial (Below.refl _ _) (Nat.le_refl _) (by simp) ?_; (case hd => rfl); (case hg => rfl); (case hr => exact Z17); (case hp => exact (Reps.one (show Kd.M Kd.string _ _ _ (⟨#[]⟩ : ByteArray) [.string (⟨#[]⟩ : ByteArray)] from rfl) (Reps.one (show Kd.M Kd.string _ _ _ (⟨#[100, 97, 110, 99, 101]⟩ : ByteArray) [.string (⟨#[100, 97, 110, 99, 101]⟩ : ByteArray)] from rfl) (Reps.one (show Kd.M Kd.string _ _ _ (⟨#[100, 97, 110, 99, 101, 32]⟩ : ByteArray) [.string (⟨#[100, 97, 110, 99, 101, 32]⟩ : ByteArray)] from rfl) (Reps.one (show Kd.M Kd.string _ _ _ (⟨#[100, 97, 110, 99, 101, 32, 120]⟩ : ByteArray) [.string (⟨#[100, 97, 110, 99, 101, 32, 120]⟩ : ByteArray)] from rfl) (Reps.one (show Kd.M Kd.string _ _ _ (⟨#[116, 97, 107, 101]⟩ : ByteArray) [.string (⟨#[116, 97, 107, 101]⟩ : ByteArray)] from rfl) (Reps.one (show Kd.M Kd.string _ _ _ (⟨#[116, 97, 107, 101, 32, 50, 47, 52]⟩ : ByteArray) [.string (⟨#[116, 97, 107, 101, 32, 50, 47, 52]⟩ : ByteArray)] from rfl) (Reps.one (show Kd.M Kd.string _ _ _ (⟨#[99, 111, 108, 111, 117, 114, 115]⟩ : ByteArray) [.string (⟨#[99, 111, 108, 111, 117, 114, 115]⟩ : ByteArray)] from rfl) (Reps.one (show Kd.M Kd.string _ _ _ (⟨#[99, 111, 108, 111, 117, 114, 115, 32, 120]⟩ : ByteArray) [.string (⟨#[99, 111, 108, 111, 117, 114, 115, 32, 120]⟩ : ByteArray)] from rfl) (Reps.one (show Kd.M Kd.string _ _ _ (⟨#[99, 111, 108, 111, 117, 114, 115, 32, 48]⟩ : ByteArray) [.string (⟨#[99, 111, 108, 111, 117, 114, 115, 32, 48]⟩ : ByteArray)] from rfl) (Reps.one (show Kd.M Kd.string _ _ _ (⟨#[99, 111, 108, 111, 117, 114, 115, 32, 49, 51]⟩ : ByteArray) [.string (⟨#[99, 111, 108, 111, 117, 114, 115, 32, 49, 51]⟩ : ByteArray)] from rfl) (Reps.one (show Kd.M Kd.string _ _ _ (⟨#[32, 116, 101, 120, 116]⟩ : ByteArray) [.string (⟨#[32, 116, 101, 120, 116]⟩ : ByteArray)] from rfl) (Reps.one (show Kd.M Kd.string _ _ _ (⟨#[109, 105, 114, 114, 111, 114, 32, 49]⟩ : ByteArray) [.string (⟨#[109, 105, 114, 114, 111, 114, 32, 49]⟩ : ByteArray)] from rfl) (Reps.none _ _)))))))))))))); intro v1 w3 ho1 hb hg_ hnew_; clear hg_ hnew_; (first | rw [← Ny1.out] at ho1 | (simp only [Int.reduceToNat] at ho1; rw [← Ny1.out] at ho1)); have O1 := sqa (Kd.R_lower ho1 (keep_size (w := w) (g := g) (row := none) Z67)); replace HK := sqa (KeepBut.trans Z67 (KeepBut.of_below hb g none) (.inl rfl)); replace HB := sqa (below_step (Z68 HI0) hb); replace HI0 := sqa (IsS131.below (Z66 HI0) hb); clear hb ho1) | ((with_reducible refine sqc 82 rfl ?_); refine sqC (some 17) func82 #[.pointer (some ⟨g, 0, none⟩), .int .i64 12] ?_; (with_reducible refine (spec_l20Rd_pick.calls kj2 g s0_0 t1 12 t4 t5 w0 _ ?side1 ?side2 A0.1).mono ?_); (case side1 => exact Z66 HI0); (case side2 => exact Z68 HI0); rintro e w5 ⟨rfl, hi, hb, hk⟩; refine ⟨_, rfl, ?_⟩; replace O1 := sqa (Kd.R_mono (Kd.R_keep (IsS131.apart (show IsS131 w0 _ g s0_0 t1 from by repeat (first | (with_reducible first | exact HI0.1 | apply IsS131.alloc | apply IsS131.drewN | apply IsS131.drew | apply IsS131.set_1) | exact HI0.1)) (sqR O1) (by decide)) hk (fun _ h => h.2)) (fun _ h => h.1)); replace HK := sqa (KeepBut.trans Z67 hk (.inl rfl)); replace HB := sqa (hb); replace HI0 := sqa (hi); obtain ⟨Ao1, co1, eo1⟩ := Kd.R_slice O1.1; subst eo1; have p1 : 0 ≤ (t4 : Int) := of_decide_eq_true Z16; have q1 : t4 < (y1.length : Int) := of_decide_eq_true Z16; obtain ⟨ad1, e1, hx1⟩ := Kd.at_string (Kd.R_reads' O1.1).2.2 t4 p1 q1; cases e1; replace p1 := eq_true p1; replace q1 := eq_true q1))
    go_ret
    exact ⟨Z5, Z66 HI0, Z68 HI0, Z67⟩
   rw [if_neg c0] at H
   have c1 := sqe0 c0
   have c2 := sqn1 c0
   by_cases c22 : t0 = 3
   ·rw [if_pos c22] at H
    have c12 := sqe1 c22
    have c13 := sqn0 c22
    clear c22
    obtain ⟨⟨t6, t7⟩, A1, H⟩ := sqD H
    try dsimp only at H
    obtain ⟨t8, A3, H⟩ := sqD H
    obtain ⟨c25, H⟩ := sqI H
    have c18 := eq_true c25
    have c19 : decide (8 + t8.size ≤ 9223372036854775807) = true := decide_eq_true c25
    try have c20 : (9223372036854775807 < 8 + t8.size) = False := eq_false (Nat.not_lt.2 c25)
    obtain ⟨rfl, rfl⟩ := sqO2 H
    go_wp2_with (first | ((with_reducible refine sqc 82 rfl ?_); refine sqC (some 23) func82 #[.pointer (some ⟨g, 0, none⟩), .int .i64 12] ?_; (with_reducible refine (spec_l20Rd_pick.calls kj2 g s0_0 t1 12 t6 t7 w0 _ ?side1 ?side2 A1.1).mono ?_); (case side1 => exact Z66 HI0); (case side2 => exact Z68 HI0); rintro e w6 ⟨rfl, hi, hb, hk⟩; refine ⟨_, rfl, ?_⟩; replace HK := sqa (KeepBut.trans Z67 hk (.inl rfl)); replace HB := sqa (hb); replace HI0 := sqa (hi)) | ((with_reducible refine sqc 93 rfl ?_); refine sqC (some 25) func93 #[.int .i64 (wrap64 (1 + t6))] ?_; (with_reducible refine (spec_l1Number.calls kj2 (wrap64 (1 + t6)) t8 _ A3.1).mono ?_); refine sqV fun w7 hb => ?_; replace HK := sqa (KeepBut.trans Z67 (KeepBut.of_below hb g none) (.inl rfl)); replace HB := sqa (below_step (Z68 HI0) hb); replace HI0 := sqa (IsS131.below (Z66 HI0) hb)))
    go_ret
    exact ⟨Z5, Z66 HI0, Z68 HI0, Z67⟩
   rw [if_neg c22] at H
   have c12 := sqe0 c22
   have c13 := sqn1 c22
   obtain ⟨⟨t9, t10, t11⟩, A4, H⟩ := sqD H
   try dsimp only at H
   obtain ⟨t12, A5, H⟩ := sqD H
   obtain ⟨rfl, rfl⟩ := sqO2 H
   go_wp2_with (first | ((with_reducible refine sqc 68 rfl ?_); refine sqC (some 28) func68 #[.pointer (some ⟨g, 0, none⟩)] ?_; (with_reducible refine (spec_l20Deed.calls kj2 g s0_0 t1 t9 t10 t11 w0 _ ?side1 ?side2 A4.1).mono ?_); (case side1 => exact Z66 HI0); (case side2 => exact Z68 HI0); rintro e w8 ⟨rfl, hi, hb, hk⟩; refine ⟨_, rfl, ?_⟩; replace HK := sqa (KeepBut.trans Z67 hk (.inl rfl)); replace HB := sqa (hb); replace HI0 := sqa (hi)) | ((with_reducible refine sqc 122 rfl ?_); refine sqC (some 29) func122 #[.agg #[.int .i64 t9, .string t10]] ?_; (with_reducible refine (spec_DeedText.calls kj2 t9 t10 t12 _ A5.1).mono ?_); refine sqV fun w9 hb => ?_; replace HK := sqa (KeepBut.trans Z67 (KeepBut.of_below hb g none) (.inl rfl)); replace HB := sqa (below_step (Z68 HI0) hb); replace HI0 := sqa (IsS131.below (Z66 HI0) hb)))
   go_ret
   exact ⟨Z5, Z66 HI0, Z68 HI0, Z67⟩

/-! ### spec_DrawDeskLine: function 44 -/
def spec_DrawDeskLine.f (k : Nat) (l0 : List Int) : Option (Int × Int × (List (S31)) × ByteArray) := (spec_l20Open.f l0).bind fun bt0 => ((spec_l20Desk.f k bt0.1 bt0.2 12).bind fun bt1 => ((spec_l20Line.f k bt0.1 bt1.2.2.2).bind fun bt2 => (some (bt1.1, bt1.2.1, bt1.2.2.1, bt2.1))))
theorem spec_DrawDeskLine.mono : ∀ a0 k, LeO (spec_DrawDeskLine.f k a0) (spec_DrawDeskLine.f (k + 1) a0) := by
 intro a0 k
 unfold spec_DrawDeskLine.f
 repeat' (with_reducible first | exact spec_l20Desk.mono _ _ _ _ | exact spec_l20Line.mono _ _ _ | exact LeO.refl _ | exact LeO.none _ | refine LeO.ite ?_ ?_ | refine LeO.bind ?_ fun _ => ?_)
theorem spec_DrawDeskLine.calls (k : Nat) (A0 : Option Addr) (c0 : Nat) (l0 : List Int) (r1 : Int) (r2 : Int) (r3 : List (S31)) (r4 : ByteArray) (w : World) (hr0 : Kd.C (Kd.int .u8) w A0 l0.length l0) (hc0 : l0.length ≤ c0) (H : spec_DrawDeskLine.f k l0 = some (r1, r2, r3, r4)) :
  Calls prog 44 #[.slice A0 l0.length c0] w fun e w' => ∃ v2_ : Value, e = .returned (.tuple #[.agg #[.int .i64 r1, .int .i64 r2, v2_], .string r4]) ∧ Kd.Q k31 31 w' w.heap.size (fun _ => True) v2_ r3 ∧ Below w.heap.size w w' := by
 have hu34 := underlying34
 have HR0 := sqa hr0
 have HC0 := sqa hc0
 clear hr0 hc0
 have HB := sqh w
 unfold spec_DrawDeskLine.f at H
 obtain ⟨⟨t0, t1⟩, A2, H⟩ := sqD H
 try dsimp only at H
 obtain ⟨⟨t818, t819, t2, t3⟩, A3, H⟩ := sqD H
 try dsimp only at H
 obtain ⟨⟨t4, t5⟩, A4, H⟩ := sqD H
 try dsimp only at H
 obtain ⟨rfl, rfl, rfl, rfl⟩ := sqO4 H
 go_enter func44, ntmps44
 try go_wp2_with (first | ((with_reducible refine sqd 2 rfl ?_); refine sqBx w (sqB HB) (cs := #[.int .i64 0, .int .i64 0, .slice none 0 0]) (t := 34) ?_; intro g0 hg w5 B0 E0 HB hb; clear hb hg) | ((with_reducible refine sqc 66 rfl ?_); refine sqC (some 7) func66 #[.slice A0 l0.length c0] ?_; (with_reducible refine (spec_l20Open.calls _ _ l0 t0 t1 w _ ?side1 ?side2 ?side3 A2.1).mono ?_); (case side1 => repeat (first | (with_reducible first | exact HB.1 | apply below_alloc | apply pw_below_drewN | apply below_drew1 | refine below_set ?_ E0.1) | exact HB.1)); (case side2 => exact HR0.1); (case side3 => exact HC0.1); rintro e w6 ⟨g1, rfl, hi, hb, hb2⟩; refine ⟨_, rfl, ?_⟩; replace HB := sqa (hb); have HI0 := sqa (hi); have N0 := sqa (IsS131.ne_blk hi (blk_below (sqK B0) hb2) (by decide)); have N1 := sqa (Ne.symm (IsS131.ne_blk hi (blk_below (sqK B0) hb2) (by decide))); replace B0 := sqa (blk_below (sqK B0) hb2)) | ((with_reducible refine sqc 67 rfl ?_); refine sqC (some 9) func67 #[.pointer (some ⟨g1, 0, none⟩), .int .i64 12] ?_; (with_reducible refine (spec_l20Desk.calls k g1 t0 t1 12 t818 t819 t2 t3 w _ ?side1 ?side2 A3.1).mono ?_); (case side1 => exact Z73 HI0 N0); (case side2 => exact Z72 HI0 E0); rintro e w7 ⟨v0, rfl, ho0, hi, hb, hk⟩; refine ⟨_, rfl, ?_⟩; replace B0 := sqkb hk B0 N1; have O0 := sqa (Kd.Q_lower ho0 (below_size (Z72 HI0 E0))); replace HB := sqa (hb); replace HI0 := sqa (hi); (try clear ho0)) | ((with_reducible refine sqd 5 rfl ?_); refine sqBox (N := 5) (cs := #[.int .i64 0, .int .i64 0, .slice none 0 0]) (t := 34) ?_; intro g2 hg w8 B2 hb; replace O0 := sqa (Kd.Q_below (Z39 O0) hb); have GW0 := sqa ((by rw [hg]; exact (below_size (Z72 HI0 E0)) : w.heap.size ≤ g2)); have E1 := GW0; replace HB := sqa (below_step (Z72 HI0 E0) hb); obtain ⟨N2, N3⟩ := sqM hg B0; replace B0 := sqT B0 hb; have N4 := sqa ((by rw [hg]; exact Nat.ne_of_lt (IsS131.lt (show IsS131 w _ g1 t0 t3 from by repeat (first | (with_reducible first | exact HI0.1 | apply IsS131.alloc | apply IsS131.drewN | apply IsS131.drew | apply IsS131.set_1 | refine IsS131.far ?_ N0.1 _) | exact HI0.1))) : g1 ≠ g2)); have N5 := sqa ((by rw [hg]; exact Nat.ne_of_gt (IsS131.lt (show IsS131 w _ g1 t0 t3 from by repeat (first | (with_reducible first | exact HI0.1 | apply IsS131.alloc | apply IsS131.drewN | apply IsS131.drew | apply IsS131.set_1 | refine IsS131.far ?_ N0.1 _) | exact HI0.1))) : g2 ≠ g1)); replace HI0 := sqa (IsS131.below (Z73 HI0 N0) hb); clear hb hg; have := N3.1; have := N2.1; have := N5.1; have := N4.1; obtain ⟨_, _, _, _, _, _⟩ := sqY3 B2; obtain ⟨Ao0, co0, eo0, _⟩ := Kd.Q_slice O0.1; subst eo0))
 have n0_ : Aside0 (Kd.Q k31 31 (((w8.setCell ⟨g2, 0, none⟩ (.int .i64 t818)).setCell ⟨g2, 1, none⟩ (.int .i64 t819)).setCell ⟨g2, 2, none⟩ (.slice Ao0 t2.length co0)) w.heap.size (fun _ => True) (.slice Ao0 t2.length co0) t2) := ⟨by (with_reducible repeat (first | apply Kd.Q_alloc | apply Kd.Q_drewN | apply Kd.Q_drew)); exact Kd.Q_mono (sqq3 O0.1 B2.1) (fun _ hk => trivial)⟩
 have n1_ : Aside0 ((((w8.setCell ⟨g2, 0, none⟩ (.int .i64 t818)).setCell ⟨g2, 1, none⟩ (.int .i64 t819)).setCell ⟨g2, 2, none⟩ (.slice Ao0 t2.length co0)).heap[g0]? = some (.cells #[.int .i64 0, .int .i64 0, .slice none 0 0] 34 (0, 0))) := ⟨Z37 N2 B0⟩
 have n2_ : Aside0 ((((w8.setCell ⟨g2, 0, none⟩ (.int .i64 t818)).setCell ⟨g2, 1, none⟩ (.int .i64 t819)).setCell ⟨g2, 2, none⟩ (.slice Ao0 t2.length co0)).heap[g2]? = some (.cells #[.int .i64 t818, .int .i64 t819, .slice Ao0 t2.length co0] 34 (0, 0))) := ⟨Z87 B2⟩
 have n3_ : Aside0 (IsS131 w (((w8.setCell ⟨g2, 0, none⟩ (.int .i64 t818)).setCell ⟨g2, 1, none⟩ (.int .i64 t819)).setCell ⟨g2, 2, none⟩ (.slice Ao0 t2.length co0)) g1 t0 t3) := ⟨Z74 HI0 N0 N4⟩
 have n4_ : Aside0 (Below w.heap.size w (((w8.setCell ⟨g2, 0, none⟩ (.int .i64 t818)).setCell ⟨g2, 1, none⟩ (.int .i64 t819)).setCell ⟨g2, 2, none⟩ (.slice Ao0 t2.length co0))) := ⟨Z76 HI0 E0 E1⟩
 (try clear O0)
 (try clear B0)
 (try clear B2)
 (try clear HI0)
 (try clear HB)
 generalize (((w8.setCell ⟨g2, 0, none⟩ (.int .i64 t818)).setCell ⟨g2, 1, none⟩ (.int .i64 t819)).setCell ⟨g2, 2, none⟩ (.slice Ao0 t2.length co0)) = w0 at n0_ n1_ n2_ n3_ n4_ ⊢
 have O0 := n0_
 have B0 := n1_
 have B2 := n2_
 have HI0 := n3_
 have HB := n4_
 clear n0_ n1_ n2_ n3_ n4_
 replace O0 := sqa (Kd.Q_drew O0.1)
 replace B0 := sqa (blk_drew B0.1)
 replace B2 := sqa (blk_drew B2.1)
 replace HI0 := sqa (IsS131.drew HI0.1)
 replace HB := sqa (below_drew1 HB.1)
 refine start_ (n := 5) (S := fun w' => w'.cell? ⟨g2, 0, none⟩ = some (.int .i64 t818) ∧ w'.cell? ⟨g2, 1, none⟩ = some (.int .i64 t819) ∧ w'.cell? ⟨g2, 2, none⟩ = some (.slice Ao0 t2.length co0)) (ds := []) #[false, false, false, false, false] (by kernel_rfl) rfl rfl (sqk1 B2) (fun hHeld => ?_)
 generalize w0.drew = w2 at O0 B0 B2 HI0 HB hHeld ⊢
 refine sqPk 1 (some 11) (h := ?_)
 refine sqQk 0 (some 10) hHeld (h := ?_)
 refine sq1k 2 (some 12) (h := fun K hK => ?_)
 refine sqg func103 #[.pointer (some ⟨g1, 0, none⟩)] ?_
 with_reducible refine (spec_l20Line.calls k g1 t0 t3 t4 t5 w _ ?side1 ?side2 A4.1).mono ?_
 (case side1 => exact Z74 HI0 N0 N4)
 (case side2 => exact Z76 HI0 E0 E1)
 rintro e w3 ⟨rfl, hi, hb, hk⟩
 refine ⟨_, rfl, ?_⟩
 replace B0 := sqkb hk B0 N1
 replace O0 := sqa (Kd.Q_mono (Kd.Q_keep (IsS131.apartQ (show IsS131 w _ g1 t0 t3 from by repeat (first | (with_reducible first | exact HI0.1 | apply IsS131.alloc | apply IsS131.drewN | apply IsS131.drew | apply IsS131.set_1 | refine IsS131.far ?_ N0.1 _ | refine IsS131.far ?_ N4.1 _) | exact HI0.1)) (Z39 O0) (by decide)) hk (fun _ h => h.2)) (fun _ h => h.1))
 replace B2 := sqkb hk B2 N5
 replace HB := sqa (hb)
 replace HI0 := sqa (hi)
 refine hK.out _ _ (sqk1 B2) (fun hHeld => ?_)
 clear hK K
 refine sqN (some 12) ?_
 refine sq1k 3 none (h := fun K hK => ?_)
 obtain ⟨_, _, _, _, _, _⟩ := sqY3 B0
 have := N3.1
 have := N2.1
 refine skip_ (w1 := ?_) (by rfl) rfl ?_ ?_
 rotate_left
 ·go_simp
  rfl
 refine hK.out _ _ (sql1 N3 hHeld) (fun hHeld => ?_)
 clear hK K
 refine sqPk 4 (some 3) (h := ?_)
 refine done_ (by kernel_rfl) ?_
 try go_wp2
 refine sqE g0 34 #[.int .i64 t818, .int .i64 t819, .slice Ao0 t2.length co0] (Z87 B0) underlying34 ?_
 exact ⟨_, Z5, by (with_reducible repeat (first | apply Kd.Q_alloc | apply Kd.Q_drewN | apply Kd.Q_drew)); exact Kd.Q_mono (sqq3 O0.1 B0.1) (fun _ hk => trivial), Z76 HI0 E0 E1⟩
end Go.Proofs.YtofmlbgfcohhoaaGreatDoor.PFnDeskLine
