/- The walk of the law FnReadJournal, for the answer true: turned by a program of this session from the printed walk. -/
import Derived.Test.YtofmlbgfcohhoaaGreatDoorPFnReadJournalx21
import Derived.Test.YtofmlbgfcohhoaaGreatDoorPFnReadJournalx23
import Derived.Test.YtofmlbgfcohhoaaGreatDoorPFnReadJournalx27
set_option maxHeartbeats 8000000
set_option maxRecDepth 100000
namespace Go.Proofs.YtofmlbgfcohhoaaGreatDoor.PFnReadJournal
open Go.RowKit Go.Proofs.YtofmlbgfcohhoaaGreatDoorW.PrintWords Go.Proofs.YtofmlbgfcohhoaaGreatDoorW.PrintLast Go.Proofs.YtofmlbgfcohhoaaGreatDoorW.PrintMore Go.Proofs.YtofmlbgfcohhoaaGreatDoor.Lib Go.Proofs.Tryz
attribute [local go_sem] max2_int min2_int max_two min_two max_three min_three max_four min_four   -- for this text's walks alone
set_option linter.unusedVariables false
set_option linter.unusedSimpArgs false

mutual
def laws_FnReadJournal.j0 : Nat → List Int → List Int → Bool → Option (Bool)
 | 0, _, _, _ => none
 | k + 1, x0, x1, x2 => if x2 = true then (some true) else ((F78.f k x0).bind fun t0 => ((F25.f k t0).bind fun bt0 => ((F26.f k t0).bind fun bt1 => ((F35.f k bt0.1 bt1.1).bind fun t1 => (if t1 = true then (laws_FnReadJournal.j1 k x1 t0 bt0.1 bt0.2 (bt0.2 != bt1.2)) else (laws_FnReadJournal.j1 k x1 t0 bt0.1 bt0.2 true))))))
def laws_FnReadJournal.j1 : Nat → List Int → ByteArray → List (S38) → Int → Bool → Option (Bool)
 | 0, _, _, _, _, _ => none
 | k + 1, x1, x5, x6, x7, x0 => if x0 = true then (some false) else (laws_FnReadJournal.l0 k x1 x5 x6 x7 0)
def laws_FnReadJournal.l0 : Nat → List Int → ByteArray → List (S38) → Int → Int → Option (Bool)
 | 0, _, _, _, _, _ => none
 | k + 1, x1, x5, x6, x7, x0 => if x0 ≤ (x5.size : Int) then (if 0 ≤ x0 then ((F25.f k (x5.extract 0 (x0 : Int).toNat)).bind fun bt0 => (if (bt0.1.length : Int) > (x6.length : Int) then (some false) else (if 0 ≤ (mn (bt0.1.length : Int) (x6.length : Int)) then (if (mn (bt0.1.length : Int) (x6.length : Int)) ≤ (x6.length : Int) then ((F35.f k bt0.1 (x6.take ((mn (bt0.1.length : Int) (x6.length : Int)) : Int).toNat)).bind fun t0 => (if t0 = true then (if bt0.2 > x0 then (some false) else (laws_FnReadJournal.l0 k x1 x5 x6 x7 (wrap64 (x0 + 1)))) else (some false))) else (none)) else (none)))) else (none)) else ((F76.f k x1).bind fun bt1 => (laws_FnReadJournal.l1 k x5 x6 x7 0 bt1.1 bt1.2.1 bt1.2.2.1 bt1.1 bt1.2.1 bt1.2.2.1))
def laws_FnReadJournal.l1 : Nat → ByteArray → List (S38) → Int → Int → Int → Int → List (S31) → Int → Int → List (S31) → Option (Bool)
 | 0, _, _, _, _, _, _, _, _, _, _ => none
 | k + 1, x5, x6, x7, x0, x1, x2, x3, x4, x8, x9 => if x0 < (x6.length : Int) then ((F18.f k x1 x2 x3).bind fun t0 => (laws_FnReadJournal.j4 k x5 x6 x7 x0 t0 x1 x2 x3 x4 x8 x9)) else (laws_FnReadJournal.j4 k x5 x6 x7 x0 false x1 x2 x3 x4 x8 x9)
def laws_FnReadJournal.j4 : Nat → ByteArray → List (S38) → Int → Int → Bool → Int → Int → List (S31) → Int → Int → List (S31) → Option (Bool)
 | 0, _, _, _, _, _, _, _, _, _, _, _ => none
 | k + 1, x5, x6, x7, x0, x1, x2, x3, x4, x8, x9, x10 => if x1 = true then (if 0 ≤ x0 then (if x0 < (x6.length : Int) then ((F60.f k ((rd_T38 x6 x0).f0) ((rd_T38 x6 x0).f1)).bind fun t0 => ((F57.f k x8 x9 x10 t0).bind fun bt0 => (if bt0.2.2.2.toList = ([111, 107] : List UInt8) then (laws_FnReadJournal.l1 k x5 x6 x7 (wrap64 (x0 + 1)) x2 x3 x4 bt0.1 bt0.2.1 bt0.2.2.1) else (if bt0.2.2.2.toList = ([110, 111, 116] : List UInt8) then (laws_FnReadJournal.l1 k x5 x6 x7 (wrap64 (x0 + 1)) x2 x3 x4 bt0.1 bt0.2.1 bt0.2.2.1) else (some false))))) else (none)) else (none)) else ((F12.f k x2 x3 x4 x6).bind fun bt1 => (if x7 ≤ (x5.size : Int) then ((F32.f k x6).bind fun t1 => (if 0 ≤ x7 then (if t1.toList = (x5.extract 0 (x7 : Int).toNat).toList then ((F18.f k x2 x3 x4).bind fun t2 => (if t2 = true then (if (x6.length : Int) > 40 then ((F62.f k).bind fun t3 => (some t3)) else ((F23.f k x8 x9 x10 bt1.1 bt1.2.1 bt1.2.2.1).bind fun t4 => (if t4 = true then ((F62.f k).bind fun t5 => (some t5)) else (some false)))) else ((F62.f k).bind fun t6 => (some t6)))) else (some false)) else (none))) else (some false)))
end
def laws_FnReadJournal.f (k : Nat) (l0 : List Int) (l1 : List Int) : Option (Bool) := if (l0.length : Int) > 1048576 then (laws_FnReadJournal.j0 k l0 l1 true) else (laws_FnReadJournal.j0 k l0 l1 (decide ((l1.length : Int) > 1048576)))
abbrev laws_FnReadJournal.M (k : Nat) : Prop := (∀ y0 y1 y2, LeO (laws_FnReadJournal.j0 k y0 y1 y2) (laws_FnReadJournal.j0 (k + 1) y0 y1 y2)) ∧ (∀ y0 y1 y2 y3 y4, LeO (laws_FnReadJournal.j1 k y0 y1 y2 y3 y4) (laws_FnReadJournal.j1 (k + 1) y0 y1 y2 y3 y4)) ∧ (∀ y0 y1 y2 y3 y4, LeO (laws_FnReadJournal.l0 k y0 y1 y2 y3 y4) (laws_FnReadJournal.l0 (k + 1) y0 y1 y2 y3 y4)) ∧ (∀ y0 y1 y2 y3 y4 y5 y6 y7 y8 y9, LeO (laws_FnReadJournal.l1 k y0 y1 y2 y3 y4 y5 y6 y7 y8 y9) (laws_FnReadJournal.l1 (k + 1) y0 y1 y2 y3 y4 y5 y6 y7 y8 y9)) ∧ (∀ y0 y1 y2 y3 y4 y5 y6 y7 y8 y9 y10, LeO (laws_FnReadJournal.j4 k y0 y1 y2 y3 y4 y5 y6 y7 y8 y9 y10) (laws_FnReadJournal.j4 (k + 1) y0 y1 y2 y3 y4 y5 y6 y7 y8 y9 y10))
theorem laws_FnReadJournal.mono_t : ∀ k, laws_FnReadJournal.M k → laws_FnReadJournal.M (k + 1) ∧ ∀ a0 a1, LeO (laws_FnReadJournal.f k a0 a1) (laws_FnReadJournal.f (k + 1) a0 a1) := by
  rintro k ⟨ih0, ih1, ih2, ih3, ih4⟩
  refine ⟨⟨?_, ?_, ?_, ?_, ?_⟩, ?_⟩ <;> intros <;> (first | unfold laws_FnReadJournal.j0 | unfold laws_FnReadJournal.j1 | unfold laws_FnReadJournal.l0 | unfold laws_FnReadJournal.l1 | unfold laws_FnReadJournal.j4 | unfold laws_FnReadJournal.f) <;> repeat' (with_reducible first | exact ih0 _ _ _ | exact ih1 _ _ _ _ _ | exact ih2 _ _ _ _ _ | exact ih3 _ _ _ _ _ _ _ _ _ _ | exact ih4 _ _ _ _ _ _ _ _ _ _ _ | exact F60.m _ _ _ | exact F57.m _ _ _ _ _ | exact F12.m _ _ _ _ _ | exact F32.m _ _ | exact F25.m _ _ | exact F62.m _ | exact F35.m _ _ _ | exact F23.m _ _ _ _ _ _ _ | exact F18.m _ _ _ _ | exact F76.m _ _ | exact F78.m _ _ | exact F26.m _ _ | exact LeO.refl _ | exact LeO.none _ | refine LeO.ite ?_ ?_ | refine LeO.bind ?_ fun _ => ?_)
theorem laws_FnReadJournal.mono_l : ∀ k, laws_FnReadJournal.M k
 | 0 => ⟨fun _ _ _ r h => by simp [laws_FnReadJournal.j0] at h, fun _ _ _ _ _ r h => by simp [laws_FnReadJournal.j1] at h, fun _ _ _ _ _ r h => by simp [laws_FnReadJournal.l0] at h, fun _ _ _ _ _ _ _ _ _ _ r h => by simp [laws_FnReadJournal.l1] at h, fun _ _ _ _ _ _ _ _ _ _ _ r h => by simp [laws_FnReadJournal.j4] at h⟩
 | k + 1 => (laws_FnReadJournal.mono_t k (laws_FnReadJournal.mono_l k)).1
theorem laws_FnReadJournal.mono a0 a1 k : LeO (laws_FnReadJournal.f k a0 a1) (laws_FnReadJournal.f (k + 1) a0 a1) := (laws_FnReadJournal.mono_t k (laws_FnReadJournal.mono_l k)).2 a0 a1
def laws_FnReadJournal.T19 : Bool × List (List Nat × List Nat) := (true, [([], []), ([], []), ([], []), ([1, 2], [1, 2]), ([3], [3]), ([4], [4]), ([0, 5, 5], [0, 5]), ([6], [6]), ([7], [7]), ([7], [7]), ([], []), ([10, 8, 6, 0, 1, 2, 3, 4, 5, 6, 7, 8, 10], [8, 10]), ([9, 11, 0, 1, 2, 3, 4, 5, 6, 7, 8, 9, 10, 11], [9])])
def laws_FnReadJournal.B19 : List Nat := [0, 0, 0, 6, 14, 30, 63, 127, 255, 255, 0, 1535, 4095]
theorem laws_FnReadJournal.tab19 : rtab .any (opsOf f7 19) = laws_FnReadJournal.T19 := by kernel_rfl
theorem laws_FnReadJournal.bits19 : waitsOk laws_FnReadJournal.T19.2 laws_FnReadJournal.B19 = true := by kernel_rfl
def laws_FnReadJournal.T24 : Bool × List (List Nat × List Nat) := (true, [([], []), ([], []), ([1], [1]), ([0, 2], [0, 2]), ([3], [3]), ([4], [4]), ([5, 4, 4], [4, 5]), ([4], [4]), ([4], [4]), ([7, 8, 4], [4, 7, 8]), ([6, 9, 4], [4, 6, 9]), ([4, 10], [4, 10]), ([11, 6], [11]), ([12], [12]), ([13, 12, 12], [12, 13]), ([14, 12], [12, 14]), ([15, 14, 12], [12, 15]), ([16], [16]), ([17, 16], [16, 17]), ([18, 16], [16, 18]), ([16, 19, 12], [12, 16, 19]), ([20, 16, 12], [12, 20]), ([21], [21]), ([21], [21]), ([22, 23, 21, 21], [21, 22, 23]), ([21, 24, 12], [12, 21, 24]), ([12, 25], [12, 25]), ([26, 24], [26]), ([27, 27], [27]), ([27, 28], [27, 28]), ([29, 28, 0, 1, 2, 3, 4, 5, 6, 7, 8, 9, 10, 11, 12, 13, 14, 15, 16, 17, 18, 19, 20, 21, 22, 23, 24, 25, 26, 27, 28, 29], [29])])
def laws_FnReadJournal.B24 : List Nat := [0, 0, 2, 7, 15, 31, 63, 31, 31, 415, 1023, 2047, 4095, 8191, 16383, 32767, 65535, 131071, 262143, 524287, 1048575, 2097151, 4194303, 4194303, 16777215, 33554431, 67108863, 134217727, 268435455, 536870911, 1073741823]
theorem laws_FnReadJournal.tab24 : rtab .any (opsOf f7 24) = laws_FnReadJournal.T24 := by kernel_rfl
theorem laws_FnReadJournal.bits24 : waitsOk laws_FnReadJournal.T24.2 laws_FnReadJournal.B24 = true := by kernel_rfl
theorem laws_FnReadJournal.calls (k : Nat) (A0 : Option Addr) (c0 : Nat) (l0 : List Int) (A1 : Option Addr) (c1 : Nat) (l1 : List Int) (r : Bool) (w : World) (hG : Glob w) (hr0 : Kd.C (Kd.int .u8) w A0 l0.length l0) (hc0 : l0.length ≤ c0) (hr1 : Kd.C (Kd.int .u8) w A1 l1.length l1) (hc1 : l1.length ≤ c1) (hT : Aside0 (r = true)) (H : laws_FnReadJournal.f k l0 l1 = some r) :
  Calls prog 7 #[.slice A0 l0.length c0, .slice A1 l1.length c1] w fun e w' => e = .returned (.bool r) ∧ Below w.heap.size w w' := by
 have hu34 := underlying34
 have hu38 := underlying38
 have HR0 := sqa hr0
 have HC0 := sqa hc0
 clear hr0 hc0
 have HR1 := sqa hr1
 have HC1 := sqa hc1
 clear hr1 hc1
 have HB := sqh w
 unfold laws_FnReadJournal.f at H
 have HC3 := sqa H
 clear H
 go_enter func7, ntmps7
 go_upto_region 1 with (fail)
 go_cut [28] (fun v0 wc => ∃ (kq : Nat) (x0 : Bool), v0 = .bool x0 ∧ Aside0 (laws_FnReadJournal.j0 kq l0 l1 x0 = some r) ∧ Aside0 (kq ≤ k) ∧ Aside0 (Below w.heap.size w wc))
 case first =>
  have H := HC3.1
  clear HC3
  by_cases c4 : (l0.length : Int) > 1048576
  ·rw [if_pos c4] at H
   have c4b0 : decide (1048576 < (l0.length : Int)) = true := decide_eq_true c4
   have c4b1 : decide (1048576 < l0.length) = true := decide_eq_true (by omega)
   clear c4
   (first | rw [c4b0] | (simp only [i64_w, i32_w]; rw [c4b0]) | skip)
   have H' := sqa H
   clear H
   go_wp2
   go_meet
   case rel => exact ⟨_, (true), Z2, H', ⟨Z3⟩, ⟨sqB HB⟩⟩
  rw [if_neg c4] at H
  have c4b0 : decide (1048576 < (l0.length : Int)) = false := decide_eq_false c4
  have c4b1 : decide (1048576 < l0.length) = false := decide_eq_false (by omega)
  clear c4
  (first | rw [c4b0] | (simp only [i64_w, i32_w]; rw [c4b0]) | skip)
  have H' := sqa H
  clear H
  go_wp2
  go_meet
  case rel => exact ⟨_, (decide ((l1.length : Int) > 1048576)), Z2, H', ⟨Z3⟩, ⟨sqB HB⟩⟩
 case rest =>
  clear HC3
  obtain ⟨kq, x0, rfl, HA, HJ2, HB⟩ := hcut
  cases kq with
  | zero => exact absurd HA.out (by simp [laws_FnReadJournal.j0])
  | succ kj2 =>
   have H := HA.out
   clear HA
   simp only [laws_FnReadJournal.j0] at H
   by_cases c5 : x0 = true
   ·subst c5
    rw [if_pos rfl] at H
    obtain rfl := sqo H
    go_wp2
    go_ret
    exact ⟨Z14, sqB HB⟩
   obtain rfl := sqb c5
   rw [if_neg sqF] at H
   obtain ⟨t0, A6, H⟩ := sqD H
   obtain ⟨⟨t1, t2⟩, A7, H⟩ := sqD H
   try dsimp only at H
   obtain ⟨⟨t3, t4⟩, A8, H⟩ := sqD H
   try dsimp only at H
   have HC9 := sqa H
   clear H
   go_upto_region 6 with (first | ((with_reducible refine sqc 36 rfl ?_); refine sqC (some 30) func36 #[.slice A0 l0.length c0] ?_; (with_reducible refine (F78.c kj2 _ _ l0 t0 _ ?side1 ?side2 A6.1).mono ?_); (case side1 => exact Z109 HR0); (case side2 => exact HC0.1); refine sqV fun w0 hb => ?_; replace HB := sqS (sqB HB) hb) | ((with_reducible refine sqc 37 rfl ?_); refine sqC (some 33) func37 #[.string t0] ?_; (with_reducible refine (F25.c kj2 t0 t1 t2 _ ?sideG A7.1).mono ?_); (case sideG => exact Z93); rintro e w2 ⟨v1, rfl, ho0, hb⟩; refine ⟨_, rfl, ?_⟩; have O0 := sqL ho0 (sqB HB); replace HB := sqS (sqB HB) hb; (try clear ho0)) | ((with_reducible refine sqc 38 rfl ?_); refine sqC (some 38) func38 #[.string t0] ?_; (with_reducible refine (F26.c kj2 t0 t3 t4 _ A8.1).mono ?_); rintro e w3 ⟨v2, rfl, ho0, hb⟩; refine ⟨_, rfl, ?_⟩; replace O0 := sqU O0 hb; have O1 := sqL ho0 (sqB HB); replace HB := sqS (sqB HB) hb; (try clear ho0)))
   (try simp only [Act.put, List.setIfInBounds_toArray, List.set_cons_zero, List.set_cons_succ])
   go_cut [49] (fun v3 wc => ∃ (kq : Nat) (x1 : Bool), v3 = .bool x1 ∧ Aside0 (laws_FnReadJournal.j1 kq l1 t0 t1 t2 x1 = some r) ∧ Aside0 (kq ≤ kj2) ∧ Aside0 (Kd.R k38 38 wc w.heap.size (fun _ => True) v1 t1) ∧ Aside0 (Below w.heap.size w wc))
   case first =>
    have H := HC9.1
    clear HC9
    obtain ⟨t5, A2, H⟩ := sqD H
    by_cases c2 : t5 = true
    ·subst c2
     rw [if_pos rfl] at H
     have H' := sqa H
     clear H
     obtain ⟨Ao0, co0, eo0⟩ := Kd.R_slice O0.1
     subst eo0
     obtain ⟨Ao1, co1, eo1⟩ := Kd.R_slice O1.1
     subst eo1
     go_wp2_with (first | ((with_reducible refine sqc 39 rfl ?_); refine sqC (some 43) func39 #[.slice Ao0 t1.length co0, .slice Ao1 t3.length co1] ?_; (with_reducible refine (F35.c kj2 _ _ t1 _ _ t3 true _ ?side1 ?side2 ?side3 ?side4 A2.1).mono ?_); (case side1 => exact Z47 O0); (case side2 => exact Z48 O0); (case side3 => exact Z47 O1); (case side4 => exact Z48 O1); rintro e w' ⟨rfl, ⟨nd, rfl⟩⟩; refine ⟨_, rfl, ?_⟩))
     go_meet
     case rel => exact ⟨_, ((t2 != t4)), Z2, H', ⟨Z55⟩, ⟨sqR O0⟩, ⟨sqB HB⟩⟩
    obtain rfl := sqb c2
    rw [if_neg sqF] at H
    have H' := sqa H
    clear H
    obtain ⟨Ao2, co2, eo2⟩ := Kd.R_slice O0.1
    subst eo2
    obtain ⟨Ao3, co3, eo3⟩ := Kd.R_slice O1.1
    subst eo3
    go_wp2_with (first | ((with_reducible refine sqc 39 rfl ?_); refine sqC (some 43) func39 #[.slice Ao2 t1.length co2, .slice Ao3 t3.length co3] ?_; (with_reducible refine (F35.c kj2 _ _ t1 _ _ t3 false _ ?side1 ?side2 ?side3 ?side4 A2.1).mono ?_); (case side1 => exact Z47 O0); (case side2 => exact Z48 O0); (case side3 => exact Z47 O1); (case side4 => exact Z48 O1); rintro e w' ⟨rfl, ⟨nd, rfl⟩⟩; refine ⟨_, rfl, ?_⟩))
    go_meet
    case rel => exact ⟨_, (true), Z2, H', ⟨Z55⟩, ⟨sqR O0⟩, ⟨sqB HB⟩⟩
   case rest =>
    clear HC9
    obtain ⟨kq, x1, rfl, HA, HJ8, O2, HB⟩ := hcut
    cases kq with
    | zero => exact absurd HA.out (by simp [laws_FnReadJournal.j1])
    | succ kj8 =>
     have H := HA.out
     clear HA
     simp only [laws_FnReadJournal.j1] at H
     by_cases c3 : x1 = true
     ·subst c3
      rw [if_pos rfl] at H
      obtain rfl := sqo H
      go_wp2
      go_ret
      exact ⟨Z14, sqB HB⟩
     obtain rfl := sqb c3
     rw [if_neg sqF] at H
     have H' := sqa H
     clear H
     go_wp2
     go_loopg [10] kj8 (fun kq v4 w' => ∃ (x2 : Int), v4 = .int .i64 x2 ∧ Aside0 (laws_FnReadJournal.l0 kq l1 t0 t1 t2 x2 = some r) ∧ Aside0 (kq ≤ kj8) ∧ Aside0 (Kd.R k38 38 w' w.heap.size (fun _ => True) v1 t1) ∧ Aside0 (Below w.heap.size w w'))
     case atStart => exact ⟨(0), Z2, H', ⟨Nat.le_refl _⟩, ⟨sqR O2⟩, ⟨sqB HB⟩⟩
     case round =>
      clear H'
      obtain ⟨x2, rfl, HA, HK3, O2, HB⟩ := hrel
      cases gk with
      | zero => exact absurd HA.out (by simp [laws_FnReadJournal.l0])
      | succ k3 =>
       have H := HA.out
       clear HA
       simp only [laws_FnReadJournal.l0] at H
       by_cases c20 : x2 ≤ (t0.size : Int)
       ·rw [if_pos c20] at H
        have c6 : decide (x2 ≤ (t0.size : Int)) = true := decide_eq_true c20
        clear c20
        obtain ⟨c21, H⟩ := sqI H
        have c7 := eq_true c21
        have c8 : decide (0 ≤ x2) = true := decide_eq_true c21
        clear c21
        have c9 := eq_true (of_decide_eq_true Z7 : x2 ≤ (t0.size : Int))
        obtain ⟨⟨t6, t7⟩, A3, H⟩ := sqD H
        try dsimp only at H
        by_cases c24 : (t6.length : Int) > (t1.length : Int)
        ·rw [if_pos c24] at H
         exact absurd (sqo H) Z110
        rw [if_neg c24] at H
        have c11 : decide ((t1.length : Int) < (t6.length : Int)) = false := decide_eq_false c24
        have c12 : decide (t1.length < t6.length) = false := decide_eq_false (fun h => c24 (Int.ofNat_lt.mpr h))
        clear c24
        obtain ⟨ji0, hji0⟩ : ∃ j_ : Int, (mn (t6.length : Int) (t1.length : Int)) = j_ := ⟨_, rfl⟩
        replace H : (if 0 ≤ (ji0) then (if (ji0) ≤ (t1.length : Int) then ((F35.f k3 t6 (t1.take ((ji0) : Int).toNat)).bind fun t8 => (if t8 = true then (if t7 > x2 then (some false) else (laws_FnReadJournal.l0 k3 l1 t0 t1 t2 (wrap64 (x2 + 1)))) else (some false))) else (none)) else (none)) = some r := by first | (rw [hji0] at H; exact H) | (simp only [hji0] at H ⊢; exact H)
        (try rw [hji0] at A3)
        have hji1 : (if (t1.length : Int) < (t6.length : Int) then (t1.length : Int) else (t6.length : Int)) = ji0 := hji0
        obtain rfl : (t6.length : Int) = ji0 := by rw [← hji1, if_neg (of_decide_eq_false c11)]
        have := eq_false (of_decide_eq_false c12)
        obtain ⟨c29, H⟩ := sqI H
        have c15 := eq_true c29
        have c16 : decide (0 ≤ (t6.length : Int)) = true := decide_eq_true c29
        clear c29
        obtain ⟨c30, H⟩ := sqI H
        have c18 := eq_true c30
        have c22 : decide ((t6.length : Int) ≤ (t1.length : Int)) = true := decide_eq_true c30
        clear c30
        obtain ⟨y0, hy0⟩ : ∃ y_ : List (S38), y_ = (t1.take ((t6.length : Int) : Int).toNat) := ⟨_, rfl⟩
        replace H : ((F35.f k3 t6 y0).bind fun t8 => (if t8 = true then (if t7 > x2 then (some false) else (laws_FnReadJournal.l0 k3 l1 t0 t1 t2 (wrap64 (x2 + 1)))) else (some false))) = some r := sqW hy0 H
        have Ny0 := sqa hy0
        clear hy0
        obtain ⟨t8, A4, H⟩ := sqD H
        by_cases c32 : t8 = true
        ·subst c32
         rw [if_pos rfl] at H
         by_cases c33 : t7 > x2
         ·rw [if_pos c33] at H
          exact absurd (sqo H) Z110
         rw [if_neg c33] at H
         have c26 : decide (x2 < t7) = false := decide_eq_false c33
         clear c33
         have H' := sqa H
         clear H
         go_wp2_with (first | ((with_reducible refine sqc 37 rfl ?_); refine sqC (some 60) func37 #[.string (t0.extract 0 (x2 : Int).toNat)] ?_; (with_reducible refine (F25.c k3 (t0.extract 0 (x2 : Int).toNat) t6 t7 _ ?sideG A3.1).mono ?_); (case sideG => exact Z93); rintro e w4 ⟨v5, rfl, ho0, hb⟩; refine ⟨_, rfl, ?_⟩; replace O2 := sqU O2 hb; have O3 := sqL ho0 (sqB HB); replace HB := sqS (sqB HB) hb; (try clear ho0); obtain ⟨Ao4, co4, eo4⟩ := Kd.R_slice O3.1; subst eo4; obtain ⟨Ao5, co5, eo5⟩ := Kd.R_slice O2.1; subst eo5; have q0 : ((t6.length : Int) : Int) ≤ ((t1.length : Int) : Int) := of_decide_eq_true Z7; obtain ⟨i041, hi0, _, hsz0, _⟩ := info_parts info38; have hroom0 : t1.length ≤ co5 := (Kd.R_reads' O2.1).2.1; have hC0 : Kd.C k38 _ Ao5 t1.length t1 := (Kd.R_reads' O2.1).2.2; have hcut0 := cut_to (P := prog) 52 38 .i64 underlying52 hi0 Ao5 t1.length co5 (t6.length : Int) (of_decide_eq_true Z7) q0 hroom0; have hr2 := Kd.C_take (m := ((t6.length : Int) : Int).toNat) hC0 (by omega); have hy1 : y0.length = ((t6.length : Int) : Int).toNat := (by rw [Ny0.out, List.length_take]; omega); rw [← Ny0.out] at hr2; rw [← hy1] at hcut0; have HR2 := sqa hr2; have HC2 := sqa (show y0.length ≤ co5 from by omega); clear hr2 hC0 hroom0 hi0 hsz0; have KY0 := sqa hy1; clear hy1; have KL0 := sqa (show ((t6.length : Int) : Int).toNat ≤ t1.length from by omega); replace q0 := eq_true q0) | (go_at_call 39; (with_reducible refine (F35.c k3 _ _ t6 _ _ y0 true _ ?side1 ?side2 ?side3 ?side4 A4.1).mono ?_); (case side1 => exact Z47 O3); (case side2 => exact Z48 O3); (case side3 => exact Z137 HR2); (case side4 => exact HC2.1); rintro e w' ⟨rfl, ⟨nd, rfl⟩⟩))
         go_roundg k3
         case measure => have := HJ2.out; have := HJ8.out; have := HK3.out; omega
         case rel => exact ⟨(wrap64 (x2 + 1)), Z2, H', ⟨by have := HJ2.out; have := HJ8.out; have := HK3.out; omega⟩, ⟨sqR O2⟩, ⟨sqB HB⟩⟩
        rw [if_neg c32] at H
        exact absurd (sqo H) Z110
       rw [if_neg c20] at H
       have c6 : decide (x2 ≤ (t0.size : Int)) = false := decide_eq_false c20
       clear c20
       obtain ⟨⟨t788, t789, t9, t10⟩, A5, H⟩ := sqD H
       try dsimp only at H
       have H' := sqa H
       clear H
       go_wp2_with (first | ((with_reducible refine sqc 27 rfl ?_); refine sqC (some 87) func27 #[.slice A1 l1.length c1] ?_; (with_reducible refine (F76.c k3 _ _ l1 t788 t789 t9 t10 _ ?side1 ?side2 A5.1).mono ?_); (case side1 => exact Z109 HR1); (case side2 => exact HC1.1); rintro e w5 ⟨v6, v7, rfl, ho0, ho1, hb⟩; refine ⟨_, rfl, ?_⟩; replace O2 := sqU O2 hb; have O4 := sqa (Kd.Q_lower ho0 (below_size (sqB HB))); have O5 := sqL ho1 (sqB HB); replace HB := sqS (sqB HB) hb; (try clear ho0); (try clear ho1)) | ((with_reducible refine sqd 13 rfl ?_); (try (refine gate_guard (by rfl) ?_; dsimp only)); refine sqBx w (sqB HB) (cs := #[.int .i64 0, .int .i64 0, .slice none 0 0]) (t := 34) ?_; intro g0 hg w6 B0 E0 HB hb; replace O2 := sqU O2 hb; replace O4 := sqa (Kd.Q_below (Z10 O4) hb); replace O5 := sqU O5 hb; clear hb hg; have := sqY3 B0; obtain ⟨Ao6, co6, eo6, _⟩ := Kd.Q_slice O4.1; subst eo6) | ((with_reducible refine sqd 15 rfl ?_); (try (refine gate_guard (by rfl) ?_; dsimp only)); refine sqBox (N := 15) (cs := #[.int .i64 0, .int .i64 0, .slice none 0 0]) (t := 34) ?_; intro gb797 hg w7 B2 hb; replace O2 := sqa (Kd.R_below (Z111 O2 B0) hb); replace O4 := sqa (Kd.Q_below (by (with_reducible repeat (first | apply Kd.Q_alloc | apply Kd.Q_drewN | apply Kd.Q_drew)); exact (Kd.Q_mono (sqq3 O4.1 B0.1) (fun _ h_ => h_.1))) hb); replace O5 := sqa (Kd.R_below (Z111 O5 B0) hb); have GW0 := sqa ((sqG hg (sqB1 HB E0))); have E1 := GW0; replace HB := sqS (sqB1 HB E0) hb; have N0 := sqa ((by rw [hg]; exact Nat.ne_of_lt (blk_lt (g := g0) (o := .cells #[.int .i64 t788, .int .i64 t789, .slice Ao6 t9.length co6] 34 (0, 0)) (Z112 B0)) : g0 ≠ gb797)); have N1 := sqa ((by rw [hg]; exact Nat.ne_of_gt (blk_lt (g := g0) (o := .cells #[.int .i64 t788, .int .i64 t789, .slice Ao6 t9.length co6] 34 (0, 0)) (Z112 B0)) : gb797 ≠ g0)); replace B0 := sqa (blk_below (g := g0) (o := .cells #[.int .i64 t788, .int .i64 t789, .slice Ao6 t9.length co6] 34 (0, 0)) (Z112 B0) hb); clear hb hg; have := sqn2 N1 N0; have := sqY3 B2))
       go_loopg [16] k3 (fun kq v8 w' => ∃ (x3 : Int) (x4 : Int) (x5 : Int) (x6 : List (S31)) (u798002 : Value), v8 = .int .i64 x3 ∧ Aside0 (laws_FnReadJournal.l1 kq t0 t1 t2 x3 t788 t789 t9 x4 x5 x6 = some r) ∧ Aside0 (kq ≤ k3) ∧ Aside0 (Kd.R k38 38 w' w.heap.size (fun _ => True) v1 t1) ∧ Aside0 (Kd.Q k31 31 w' w.heap.size (fun _ => True) (.slice Ao6 t9.length co6) t9) ∧ Aside0 (Kd.Q k31 31 w' w.heap.size (fun _ => True) u798002 x6) ∧ Aside0 (w'.heap[g0]? = some (.cells #[.int .i64 t788, .int .i64 t789, (.slice Ao6 t9.length co6)] 34 (0, 0))) ∧ Aside0 (w'.heap[gb797]? = some (.cells #[.int .i64 x4, .int .i64 x5, u798002] 34 (0, 0))) ∧ Aside0 (Below w.heap.size w w'))
       case atStart => exact ⟨(0), (t788), (t789), (t9), (.slice Ao6 t9.length co6), Z2, H', ⟨Nat.le_refl _⟩, ⟨by (with_reducible repeat (first | apply Kd.R_alloc | apply Kd.R_drewN | apply Kd.R_drew)); exact Kd.R_mono (sqr3 O2.1 B2.1) (fun _ hk => trivial)⟩, ⟨Z113 O4 B2⟩, ⟨Z113 O4 B2⟩, ⟨Z5 N0 B0⟩, ⟨Z112 B2⟩, ⟨sqB2 HB E0 E1⟩⟩
       case round =>
        clear H'
        obtain ⟨x3, x4, x5, x6, u798002, rfl, HA, HK4, O2, O6, O7, B0, B2, HB⟩ := hrel
        cases gk with
        | zero => exact absurd HA.out (by simp [laws_FnReadJournal.l1])
        | succ k4 =>
         have H := HA.out
         clear HA
         simp only [laws_FnReadJournal.l1] at H
         have HC4 := sqa H
         clear H
         go_upto_region 17 with (fail)
         go_cut [98] (fun v9 wc => ∃ (kq : Nat) (x7 : Bool), v9 = .bool x7 ∧ Aside0 (laws_FnReadJournal.j4 kq t0 t1 t2 x3 x7 t788 t789 t9 x4 x5 x6 = some r) ∧ Aside0 (kq ≤ k4) ∧ Aside0 (Kd.R k38 38 wc w.heap.size (fun _ => True) v1 t1) ∧ Aside0 (Kd.Q k31 31 wc w.heap.size (fun _ => True) (.slice Ao6 t9.length co6) t9) ∧ Aside0 (Kd.Q k31 31 wc w.heap.size (fun _ => True) u798002 x6) ∧ Aside0 (wc.heap[g0]? = some (.cells #[.int .i64 t788, .int .i64 t789, (.slice Ao6 t9.length co6)] 34 (0, 0))) ∧ Aside0 (wc.heap[gb797]? = some (.cells #[.int .i64 x4, .int .i64 x5, u798002] 34 (0, 0))) ∧ Aside0 (Below w.heap.size w wc))
         case first =>
          have H := HC4.1
          clear HC4
          by_cases c55 : x3 < (t1.length : Int)
          ·rw [if_pos c55] at H
           have c28 : decide (x3 < (t1.length : Int)) = true := decide_eq_true c55
           clear c55
           (first | rw [c28] | (simp only [i64_w, i32_w]; rw [c28]) | skip)
           obtain ⟨t11, A9, H⟩ := sqD H
           have H' := sqa H
           clear H
           obtain ⟨Ao7, co7, eo7⟩ := Kd.R_slice O2.1
           subst eo7
           have := sqn2 N0 N1
           have := sqY3 B0
           go_wp2_with (first | (go_at_call 30; (with_reducible refine (F18.c k4 t788 t789 _ _ t9 t11 _ ?side1 ?side2 A9.1).mono ?_); (case side1 => exact Z45 O6); (case side2 => exact Z46 O6); rintro e w8 ⟨rfl, hb⟩; replace O2 := sqU O2 hb; replace O6 := sqa (Kd.Q_below (Z10 O6) hb); replace O7 := sqa (Kd.Q_below (Z10 O7) hb); obtain ⟨B0, B2⟩ := sqT2 hb B0 B2; replace HB := sqS (sqB2 HB E0 E1) hb))
           go_meet
           case rel => exact ⟨_, (t11), Z2, H', ⟨by have := HJ2.out; have := HJ8.out; have := HK3.out; have := HK4.out; first | omega | exact Nat.le_refl _⟩, ⟨sqR O2⟩, ⟨Z10 O6⟩, ⟨Z10 O7⟩, ⟨sqK B0⟩, ⟨sqK B2⟩, ⟨sqB2 HB E0 E1⟩⟩
          rw [if_neg c55] at H
          have c28 : decide (x3 < (t1.length : Int)) = false := decide_eq_false c55
          clear c55
          (first | rw [c28] | (simp only [i64_w, i32_w]; rw [c28]) | skip)
          have H' := sqa H
          clear H
          obtain ⟨Ao8, co8, eo8⟩ := Kd.R_slice O2.1
          subst eo8
          go_wp2
          go_meet
          case rel => exact ⟨_, (false), Z2, H', ⟨by have := HJ2.out; have := HJ8.out; have := HK3.out; have := HK4.out; first | omega | exact Nat.le_refl _⟩, ⟨sqR O2⟩, ⟨Z10 O6⟩, ⟨Z10 O7⟩, ⟨sqK B0⟩, ⟨sqK B2⟩, ⟨sqB2 HB E0 E1⟩⟩
         case rest =>
          clear HC4
          obtain ⟨kq, x7, rfl, HA, HJ0, O2, O6, O7, B0, B2, HB⟩ := hcut
          cases kq with
          | zero => exact absurd HA.out (by simp [laws_FnReadJournal.j4])
          | succ kj0 =>
           have H := HA.out
           clear HA
           simp only [laws_FnReadJournal.j4] at H
           by_cases c62 : x7 = true
           ·subst c62
            rw [if_pos rfl] at H
            obtain ⟨c63, H⟩ := sqI H
            have c35 : decide (0 ≤ x3) = true := decide_eq_true c63
            clear c63
            obtain ⟨c64, H⟩ := sqI H
            have c37 : decide (x3 < (t1.length : Int)) = true := decide_eq_true c64
            clear c64
            obtain ⟨t12, A65, H⟩ := sqD H
            obtain ⟨⟨t801, t802, t803, t13⟩, A66, H⟩ := sqD H
            try dsimp only at H
            by_cases c67 : t13.toList = ([111, 107] : List UInt8)
            ·rw [if_pos c67] at H
             have c39 := sqe1 c67
             have c40 := sqn0 c67
             clear c67
             have H' := sqa H
             clear H
             obtain ⟨Ao9, co9, eo9, _⟩ := Kd.Q_slice O7.1
             subst eo9
             try go_wp2
             replace O2 := sqa (Kd.R_drew O2.1)
             replace O6 := sqa (Kd.Q_drew O6.1)
             replace O7 := sqa (Kd.Q_drew O7.1)
             replace B0 := sqa (blk_drew B0.1)
             replace B2 := sqa (blk_drew B2.1)
             replace HB := sqa (below_drew1 HB.1)
             obtain ⟨Ao70, co70, eo70⟩ := Kd.R_slice O2.1
             (first | subst eo70 | (injection eo70 with f1_ f2_ f3_; have f4_ := f1_.symm; have f5_ := f3_.symm; clear f1_ f2_ f3_; subst f4_; subst f5_))
             have p0 : 0 ≤ (x3 : Int) := of_decide_eq_true Z7
             have q1 : x3 < (t1.length : Int) := of_decide_eq_true Z7
             obtain ⟨ad0, e0, hx0, hx1⟩ := at_T38 (Kd.R_reads' O2.1).2.2 x3 p0 q1
             cases e0
             replace p0 := eq_true p0
             replace q1 := eq_true q1
             refine start_ (n := 13) (S := fun w' => w'.cell? ⟨gb797, 0, none⟩ = some (.int .i64 x4) ∧ w'.cell? ⟨gb797, 1, none⟩ = some (.int .i64 x5) ∧ w'.cell? ⟨gb797, 2, none⟩ = some (.slice Ao9 x6.length co9) ∧ w'.cell? (ad0.add ((x3).toNat * 2)) = some (.int .i64 ((rd_T38 t1 x3).f0)) ∧ w'.cell? ⟨(ad0.add ((x3).toNat * 2)).block, (ad0.add ((x3).toNat * 2)).off + 1, none⟩ = some (.string ((rd_T38 t1 x3).f1))) (ds := []) #[false, false, false, false, false, false, false, false, false, false, false, false, false] (by kernel_rfl) rfl rfl ⟨(blk_cell B2.1 0).trans rfl, (blk_cell B2.1 1).trans rfl, (blk_cell B2.1 2).trans rfl, hx0, hx1⟩ (fun hHeld => ?_); refine with_tabW laws_FnReadJournal.tab19 laws_FnReadJournal.bits19 (fun HT_ HW_ => ?_)
             generalize wc.drew = w9 at O2 O6 O7 B0 B2 HB hx0 hx1 hHeld ⊢
             refine sqP 1 (some 103) (h := ?_)
             refine sqP 2 (some 104) (h := ?_)
             refine sqP 3 (some 105) (h := ?_)
             refine sqQ 0 (some 102) hHeld (h := ?_)
             refine sqQ 4 (some 106) hHeld (h := ?_)
             refine join_ (σ := Value × Nat) 2 #[true, true, true, true, true, true, true, true, true, true, true, false, false] (fun s_ => [(107, .string t12), (108, .tuple #[.agg #[.int .i64 t801, .int .i64 t802, s_.1], .string t13]), (17, .pointer (some ⟨s_.2, 0, none⟩)), (101, .tuple #[.agg #[.int .i64 t801, .int .i64 t802, s_.1], .string t13]), (109, .agg #[.int .i64 t801, .int .i64 t802, s_.1]), (110, .string t13)]) (fun s_ w' => (w'.cell? ⟨gb797, 0, none⟩ = some (.int .i64 x4) ∧ w'.cell? ⟨gb797, 1, none⟩ = some (.int .i64 x5) ∧ w'.cell? ⟨gb797, 2, none⟩ = some (.slice Ao9 x6.length co9) ∧ w'.cell? (ad0.add ((x3).toNat * 2)) = some (.int .i64 ((rd_T38 t1 x3).f0)) ∧ w'.cell? ⟨(ad0.add ((x3).toNat * 2)).block, (ad0.add ((x3).toNat * 2)).off + 1, none⟩ = some (.string ((rd_T38 t1 x3).f1))) ∧ (Kd.R k31 31 w' w.heap.size (fun _ => True) s_.1 t803) ∧ (Kd.R k38 38 w' w.heap.size (fun _ => True) (.slice (some ad0) t1.length co70) t1) ∧ (Kd.Q k31 31 w' w.heap.size (fun _ => True) (.slice Ao6 t9.length co6) t9) ∧ (Kd.Q k31 31 w' w.heap.size (fun _ => True) (.slice Ao9 x6.length co9) x6) ∧ (w'.heap[g0]? = some (.cells #[.int .i64 t788, .int .i64 t789, .slice Ao6 t9.length co6] 34 (0, 0))) ∧ (w'.heap[gb797]? = some (.cells #[.int .i64 x4, .int .i64 x5, .slice Ao9 x6.length co9] 34 (0, 0))) ∧ (w'.heap[s_.2]? = some (.cells #[.int .i64 0, .int .i64 0, .slice none 0 0] 34 (0, 0))) ∧ (w.heap.size ≤ s_.2) ∧ (w.heap.size ≤ s_.2) ∧ (g0 ≠ s_.2) ∧ (s_.2 ≠ g0) ∧ (gb797 ≠ s_.2) ∧ (s_.2 ≠ gb797) ∧ (Below w.heap.size w w')) ?_ ?_
             rotate_left
             ·intro hCont
              refine two_ (i := 5) (j := 10) (Ni := some 107) (Nj := some 17) #[true, true, true, true, true, true, false, false, false, false, false, false, false] #[true, true, true, true, true, false, false, false, false, false, true, false, false] rfl rfl rfl rfl (two_of HT_.out (by kernel_rfl)) (by decide) (by decide) (fun K hK => ?_) (fun K hK => ?_)
              ·skip
               refine sqg func41 #[.agg #[.int .i64 ((rd_T38 t1 x3).f0), .string ((rd_T38 t1 x3).f1)]] ?_
               with_reducible refine (F60.c kj0 ((rd_T38 t1 x3).f0) ((rd_T38 t1 x3).f1) t12 _ ?sideG A65.1).mono ?_
               (case sideG => exact Z56 E0 E1)
               rintro e w71 ⟨rfl, hb⟩
               have HS3_ := (hb.cell (World.block_lt_of_cell? _ _ (hHeld.2.2.2.1))).trans (hHeld.2.2.2.1)
               have HS4_ := (hb.cell (World.block_lt_of_cell? _ _ (hHeld.2.2.2.2))).trans (hHeld.2.2.2.2)
               refine ⟨_, rfl, ?_⟩
               replace O2 := sqU O2 hb
               replace O6 := sqa (Kd.Q_below (Z10 O6) hb)
               replace O7 := sqa (Kd.Q_below (Z10 O7) hb)
               replace B0 := sqT B0 hb
               replace B2 := sqT B2 hb
               replace HB := sqS (sqB2 HB E0 E1) hb
               refine hK.out _ _ ⟨(blk_cell B2.1 0).trans rfl, (blk_cell B2.1 1).trans rfl, (blk_cell B2.1 2).trans rfl, HS3_, HS4_⟩ (fun hHeld => ?_)
               clear hK K
               refine sqN (some 107) ?_
               refine two_ (i := 6) (j := 10) (Ni := some 108) (Nj := some 17) #[true, true, true, true, true, true, true, false, false, false, false, false, false] #[true, true, true, true, true, true, false, false, false, false, true, false, false] rfl rfl rfl rfl (two_of HT_.out (by kernel_rfl)) (by decide) (by decide) (fun K hK => ?_) (fun K hK => ?_)
               ·skip
                refine sqg func40 #[.agg #[.int .i64 x4, .int .i64 x5, .slice Ao9 x6.length co9], .string t12] ?_
                with_reducible refine (F57.c kj0 x4 x5 _ _ x6 t12 t801 t802 t803 t13 _ ?sideG ?side1 ?side2 A66.1).mono ?_
                (case sideG => exact Z56 E0 E1)
                (case side1 => exact Z45 O7)
                (case side2 => exact Z46 O7)
                rintro e w72 ⟨v11, rfl, ho0, hb⟩
                have HS3_ := (hb.cell (World.block_lt_of_cell? _ _ (hHeld.2.2.2.1))).trans (hHeld.2.2.2.1)
                have HS4_ := (hb.cell (World.block_lt_of_cell? _ _ (hHeld.2.2.2.2))).trans (hHeld.2.2.2.2)
                refine ⟨_, rfl, ?_⟩
                replace O2 := sqU O2 hb
                replace O6 := sqa (Kd.Q_below (Z10 O6) hb)
                replace O7 := sqa (Kd.Q_below (Z10 O7) hb)
                have O8 := sqL ho0 (sqB2 HB E0 E1)
                replace B0 := sqT B0 hb
                replace B2 := sqT B2 hb
                replace HB := sqS (sqB2 HB E0 E1) hb
                refine hK.out _ _ ⟨(blk_cell B2.1 0).trans rfl, (blk_cell B2.1 1).trans rfl, (blk_cell B2.1 2).trans rfl, HS3_, HS4_⟩ (fun hHeld => ?_)
                clear hK K
                refine sqN (some 108) ?_
                refine sqP 7 (some 101) (h := ?_)
                refine sqP 8 (some 109) (h := ?_)
                refine sqP 9 (some 110) (h := ?_)
                refine sq1 10 (some 17) (h := fun K hK => ?_)
                refine box_step ?hg (N := 17) ?hd (cs := #[.int .i64 0, .int .i64 0, .slice none 0 0]) (t := 34) ?hr ?_; (case hd => rfl); (case hg => rfl); (case hr => exact Z8)
                intro gb807 hg w73 hbox hb
                have HS3_ := (hb.cell (World.block_lt_of_cell? _ _ (hHeld.2.2.2.1))).trans (hHeld.2.2.2.1)
                have HS4_ := (hb.cell (World.block_lt_of_cell? _ _ (hHeld.2.2.2.2))).trans (hHeld.2.2.2.2)
                replace O2 := sqU O2 hb
                replace O6 := sqa (Kd.Q_below (Z10 O6) hb)
                replace O7 := sqa (Kd.Q_below (Z10 O7) hb)
                replace O8 := sqU O8 hb
                have B8 := sqa (hbox)
                have GW1 := sqa ((sqG hg (sqB2 HB E0 E1)))
                have E2 := sqa ((sqG hg (sqB2 HB E0 E1)))
                replace HB := sqS (sqB2 HB E0 E1) hb
                obtain ⟨N2, N3⟩ := sqM hg B0
                replace B0 := sqT B0 hb
                obtain ⟨N4, N5⟩ := sqM hg B2
                replace B2 := sqT B2 hb
                clear hb hbox hg
                refine hK.out _ _ ⟨(blk_cell B2.1 0).trans rfl, (blk_cell B2.1 1).trans rfl, (blk_cell B2.1 2).trans rfl, HS3_, HS4_⟩ (fun hHeld => ?_)
                clear hK K
                refine sqN (some 17) ?_
                exact norm_ Z34 (hCont (v11, gb807) _ ⟨hHeld, (sqR O8), (sqR O2), (Z10 O6), (Z10 O7), (sqK B0), (sqK B2), (sqK B8), GW1.1, E2.1, N2.1, N3.1, N4.1, N5.1, (sqB3 HB E0 E1 E2)⟩)
               ·skip
                refine box_step ?hg (N := 17) ?hd (cs := #[.int .i64 0, .int .i64 0, .slice none 0 0]) (t := 34) ?hr ?_; (case hd => rfl); (case hg => rfl); (case hr => exact Z8)
                intro gb807 hg w72 hbox hb
                have HS3_ := (hb.cell (World.block_lt_of_cell? _ _ (hHeld.2.2.2.1))).trans (hHeld.2.2.2.1)
                have HS4_ := (hb.cell (World.block_lt_of_cell? _ _ (hHeld.2.2.2.2))).trans (hHeld.2.2.2.2)
                replace O2 := sqU O2 hb
                replace O6 := sqa (Kd.Q_below (Z10 O6) hb)
                replace O7 := sqa (Kd.Q_below (Z10 O7) hb)
                have B8 := sqa (hbox)
                have GW1 := sqa ((sqG hg (sqB2 HB E0 E1)))
                have E2 := sqa ((sqG hg (sqB2 HB E0 E1)))
                replace HB := sqS (sqB2 HB E0 E1) hb
                obtain ⟨N2, N3⟩ := sqM hg B0
                replace B0 := sqT B0 hb
                obtain ⟨N4, N5⟩ := sqM hg B2
                replace B2 := sqT B2 hb
                clear hb hbox hg
                refine hK.out _ _ ⟨(blk_cell B2.1 0).trans rfl, (blk_cell B2.1 1).trans rfl, (blk_cell B2.1 2).trans rfl, HS3_, HS4_⟩ (fun hHeld => ?_)
                clear hK K
                refine sqN (some 17) ?_
                refine sq1 6 (some 108) (h := fun K hK => ?_)
                refine sqg func40 #[.agg #[.int .i64 x4, .int .i64 x5, .slice Ao9 x6.length co9], .string t12] ?_
                with_reducible refine (F57.c kj0 x4 x5 _ _ x6 t12 t801 t802 t803 t13 _ ?sideG ?side1 ?side2 A66.1).mono ?_
                (case sideG => exact Z49 E0 E1 E2)
                (case side1 => exact Z45 O7)
                (case side2 => exact Z46 O7)
                rintro e w73 ⟨v11, rfl, ho0, hb⟩
                have HS3_ := (hb.cell (World.block_lt_of_cell? _ _ (hHeld.2.2.2.1))).trans (hHeld.2.2.2.1)
                have HS4_ := (hb.cell (World.block_lt_of_cell? _ _ (hHeld.2.2.2.2))).trans (hHeld.2.2.2.2)
                refine ⟨_, rfl, ?_⟩
                replace O2 := sqU O2 hb
                replace O6 := sqa (Kd.Q_below (Z10 O6) hb)
                replace O7 := sqa (Kd.Q_below (Z10 O7) hb)
                have O8 := sqL ho0 (sqB3 HB E0 E1 E2)
                replace B0 := sqT B0 hb
                replace B2 := sqT B2 hb
                replace B8 := sqT B8 hb
                replace HB := sqS (sqB3 HB E0 E1 E2) hb
                refine hK.out _ _ ⟨(blk_cell B2.1 0).trans rfl, (blk_cell B2.1 1).trans rfl, (blk_cell B2.1 2).trans rfl, HS3_, HS4_⟩ (fun hHeld => ?_)
                clear hK K
                refine sqN (some 108) ?_
                refine sqP 7 (some 101) (h := ?_)
                refine sqP 8 (some 109) (h := ?_)
                refine sqP 9 (some 110) (h := ?_)
                exact norm_ Z34 (hCont (v11, gb807) _ ⟨hHeld, (sqR O8), (sqR O2), (Z10 O6), (Z10 O7), (sqK B0), (sqK B2), (sqK B8), GW1.1, E2.1, N2.1, N3.1, N4.1, N5.1, (sqB3 HB E0 E1 E2)⟩)
              ·skip
               refine box_step ?hg (N := 17) ?hd (cs := #[.int .i64 0, .int .i64 0, .slice none 0 0]) (t := 34) ?hr ?_; (case hd => rfl); (case hg => rfl); (case hr => exact Z8)
               intro gb807 hg w71 hbox hb
               have HS3_ := (hb.cell (World.block_lt_of_cell? _ _ (hHeld.2.2.2.1))).trans (hHeld.2.2.2.1)
               have HS4_ := (hb.cell (World.block_lt_of_cell? _ _ (hHeld.2.2.2.2))).trans (hHeld.2.2.2.2)
               replace O2 := sqU O2 hb
               replace O6 := sqa (Kd.Q_below (Z10 O6) hb)
               replace O7 := sqa (Kd.Q_below (Z10 O7) hb)
               have B8 := sqa (hbox)
               have GW1 := sqa ((sqG hg (sqB2 HB E0 E1)))
               have E2 := sqa ((sqG hg (sqB2 HB E0 E1)))
               replace HB := sqS (sqB2 HB E0 E1) hb
               obtain ⟨N2, N3⟩ := sqM hg B0
               replace B0 := sqT B0 hb
               obtain ⟨N4, N5⟩ := sqM hg B2
               replace B2 := sqT B2 hb
               clear hb hbox hg
               refine hK.out _ _ ⟨(blk_cell B2.1 0).trans rfl, (blk_cell B2.1 1).trans rfl, (blk_cell B2.1 2).trans rfl, HS3_, HS4_⟩ (fun hHeld => ?_)
               clear hK K
               refine sqN (some 17) ?_
               refine sq1 5 (some 107) (h := fun K hK => ?_)
               refine sqg func41 #[.agg #[.int .i64 ((rd_T38 t1 x3).f0), .string ((rd_T38 t1 x3).f1)]] ?_
               with_reducible refine (F60.c kj0 ((rd_T38 t1 x3).f0) ((rd_T38 t1 x3).f1) t12 _ ?sideG A65.1).mono ?_
               (case sideG => exact Z49 E0 E1 E2)
               rintro e w72 ⟨rfl, hb⟩
               have HS3_ := (hb.cell (World.block_lt_of_cell? _ _ (hHeld.2.2.2.1))).trans (hHeld.2.2.2.1)
               have HS4_ := (hb.cell (World.block_lt_of_cell? _ _ (hHeld.2.2.2.2))).trans (hHeld.2.2.2.2)
               refine ⟨_, rfl, ?_⟩
               replace O2 := sqU O2 hb
               replace O6 := sqa (Kd.Q_below (Z10 O6) hb)
               replace O7 := sqa (Kd.Q_below (Z10 O7) hb)
               replace B0 := sqT B0 hb
               replace B2 := sqT B2 hb
               replace B8 := sqT B8 hb
               replace HB := sqS (sqB3 HB E0 E1 E2) hb
               refine hK.out _ _ ⟨(blk_cell B2.1 0).trans rfl, (blk_cell B2.1 1).trans rfl, (blk_cell B2.1 2).trans rfl, HS3_, HS4_⟩ (fun hHeld => ?_)
               clear hK K
               refine sqN (some 107) ?_
               refine sq1 6 (some 108) (h := fun K hK => ?_)
               refine sqg func40 #[.agg #[.int .i64 x4, .int .i64 x5, .slice Ao9 x6.length co9], .string t12] ?_
               with_reducible refine (F57.c kj0 x4 x5 _ _ x6 t12 t801 t802 t803 t13 _ ?sideG ?side1 ?side2 A66.1).mono ?_
               (case sideG => exact Z49 E0 E1 E2)
               (case side1 => exact Z45 O7)
               (case side2 => exact Z46 O7)
               rintro e w73 ⟨v11, rfl, ho0, hb⟩
               have HS3_ := (hb.cell (World.block_lt_of_cell? _ _ (hHeld.2.2.2.1))).trans (hHeld.2.2.2.1)
               have HS4_ := (hb.cell (World.block_lt_of_cell? _ _ (hHeld.2.2.2.2))).trans (hHeld.2.2.2.2)
               refine ⟨_, rfl, ?_⟩
               replace O2 := sqU O2 hb
               replace O6 := sqa (Kd.Q_below (Z10 O6) hb)
               replace O7 := sqa (Kd.Q_below (Z10 O7) hb)
               have O8 := sqL ho0 (sqB3 HB E0 E1 E2)
               replace B0 := sqT B0 hb
               replace B2 := sqT B2 hb
               replace B8 := sqT B8 hb
               replace HB := sqS (sqB3 HB E0 E1 E2) hb
               refine hK.out _ _ ⟨(blk_cell B2.1 0).trans rfl, (blk_cell B2.1 1).trans rfl, (blk_cell B2.1 2).trans rfl, HS3_, HS4_⟩ (fun hHeld => ?_)
               clear hK K
               refine sqN (some 108) ?_
               refine sqP 7 (some 101) (h := ?_)
               refine sqP 8 (some 109) (h := ?_)
               refine sqP 9 (some 110) (h := ?_)
               exact norm_ Z34 (hCont (v11, gb807) _ ⟨hHeld, (sqR O8), (sqR O2), (Z10 O6), (Z10 O7), (sqK B0), (sqK B2), (sqK B8), GW1.1, E2.1, N2.1, N3.1, N4.1, N5.1, (sqB3 HB E0 E1 E2)⟩)
             rintro ⟨v11, gb807⟩ w74 ⟨hS_, h0_, h1_, h2_, h3_, h4_, h5_, h6_, h7_, h8_, h9_, h0, h1, h2, h3⟩
             replace O8 : Aside0 (Kd.R k31 31 w74 w.heap.size (fun _ => True) v11 t803) := ⟨h0_⟩
             replace O2 : Aside0 (Kd.R k38 38 w74 w.heap.size (fun _ => True) (.slice (some ad0) t1.length co70) t1) := ⟨h1_⟩
             replace O6 : Aside0 (Kd.Q k31 31 w74 w.heap.size (fun _ => True) (.slice Ao6 t9.length co6) t9) := ⟨h2_⟩
             replace O7 : Aside0 (Kd.Q k31 31 w74 w.heap.size (fun _ => True) (.slice Ao9 x6.length co9) x6) := ⟨h3_⟩
             replace B0 : Aside0 (w74.heap[g0]? = some (.cells #[.int .i64 t788, .int .i64 t789, .slice Ao6 t9.length co6] 34 (0, 0))) := ⟨h4_⟩
             replace B2 : Aside0 (w74.heap[gb797]? = some (.cells #[.int .i64 x4, .int .i64 x5, .slice Ao9 x6.length co9] 34 (0, 0))) := ⟨h5_⟩
             replace B8 : Aside0 (w74.heap[gb807]? = some (.cells #[.int .i64 0, .int .i64 0, .slice none 0 0] 34 (0, 0))) := ⟨h6_⟩
             replace GW1 : Aside0 (w.heap.size ≤ gb807) := ⟨h7_⟩
             replace E2 : Aside0 (w.heap.size ≤ gb807) := ⟨h8_⟩
             replace N2 : Aside0 (g0 ≠ gb807) := ⟨h9_⟩
             replace N3 : Aside0 (gb807 ≠ g0) := ⟨h0⟩
             replace N4 : Aside0 (gb797 ≠ gb807) := ⟨h1⟩
             replace N5 : Aside0 (gb807 ≠ gb797) := ⟨h2⟩
             replace HB : Aside0 (Below w.heap.size w w74) := ⟨h3⟩
             clear h0_ h1_ h2_ h3_ h4_ h5_ h6_ h7_ h8_ h9_ h0 h1 h2 h3
             have hHeld : w74.cell? ⟨gb797, 0, none⟩ = some (.int .i64 x4) ∧ w74.cell? ⟨gb797, 1, none⟩ = some (.int .i64 x5) ∧ w74.cell? ⟨gb797, 2, none⟩ = some (.slice Ao9 x6.length co9) ∧ w74.cell? (ad0.add ((x3).toNat * 2)) = some (.int .i64 ((rd_T38 t1 x3).f0)) ∧ w74.cell? ⟨(ad0.add ((x3).toNat * 2)).block, (ad0.add ((x3).toNat * 2)).off + 1, none⟩ = some (.string ((rd_T38 t1 x3).f1)) := hS_
             obtain ⟨Ao77, co77, eo77⟩ := Kd.R_slice O8.1
             (first | subst eo77 | (injection eo77 with f1_ f2_ f3_; have f4_ := f1_.symm; have f5_ := f3_.symm; clear f1_ f2_ f3_; subst f4_; subst f5_))
             refine norm_ (a' := ?_) ?_ ?_
             rotate_left
             ·simp only [putAll, Act.put, List.setIfInBounds_toArray, List.set_cons_zero, List.set_cons_succ]
              rfl
             refine sq1 11 none (h := fun K hK => ?_)
             have := sqY3 B8
             have := sqn4 N2 N4 N3 N5
             refine skip_ (w1 := ?_) (by rfl) rfl ?_ ?_
             rotate_left
             ·go_simp
              rfl
             refine hK.out _ _ ⟨((cell_far (p := ⟨gb807, _, none⟩) N4.1 _).trans (((cell_far (p := ⟨gb807, _, none⟩) N4.1 _).trans (((cell_far (p := ⟨gb807, _, none⟩) N4.1 _).trans (hHeld.1)))))), ((cell_far (p := ⟨gb807, _, none⟩) N4.1 _).trans (((cell_far (p := ⟨gb807, _, none⟩) N4.1 _).trans (((cell_far (p := ⟨gb807, _, none⟩) N4.1 _).trans (hHeld.2.1)))))), ((cell_far (p := ⟨gb807, _, none⟩) N4.1 _).trans (((cell_far (p := ⟨gb807, _, none⟩) N4.1 _).trans (((cell_far (p := ⟨gb807, _, none⟩) N4.1 _).trans (hHeld.2.2.1)))))), ((cell_far (p := ⟨gb807, _, none⟩) (Z42 O2 B8) _).trans (((cell_far (p := ⟨gb807, _, none⟩) (Z42 O2 B8) _).trans (((cell_far (p := ⟨gb807, _, none⟩) (Z42 O2 B8) _).trans (hHeld.2.2.2.1)))))), ((cell_far (p := ⟨gb807, _, none⟩) (Z42 O2 B8) _).trans (((cell_far (p := ⟨gb807, _, none⟩) (Z42 O2 B8) _).trans (((cell_far (p := ⟨gb807, _, none⟩) (Z42 O2 B8) _).trans (hHeld.2.2.2.2))))))⟩ (fun hHeld => ?_)
             clear hK K
             refine sqP 12 (some 18) (h := ?_)
             refine done_ (done_of HT_.out (by kernel_rfl)) ?_
             have := sqn4 N3 N2 N5 N4
             have := sqY3 B8
             have := sqn2 N1 N0
             have := sqY3 B2
             try go_wp2
             go_roundg kj0
             case measure => have := HJ2.out; have := HJ8.out; have := HK3.out; have := HK4.out; have := HJ0.out; omega
             case rel => exact ⟨(wrap64 (x3 + 1)), (t801), (t802), (t803), (.slice Ao77 t803.length co77), Z2, H', ⟨by have := HJ2.out; have := HJ8.out; have := HK3.out; have := HK4.out; have := HJ0.out; omega⟩, ⟨Z114 O2 B8 B2⟩, ⟨by (with_reducible repeat (first | apply Kd.Q_alloc | apply Kd.Q_drewN | apply Kd.Q_drew)); exact Kd.Q_mono (Kd.Q_far (p := ⟨gb797, 2, none⟩) (Kd.Q_far (p := ⟨gb797, 1, none⟩) (Kd.Q_far (p := ⟨gb797, 0, none⟩) (Kd.Q_far (p := ⟨gb807, 2, none⟩) (Kd.Q_far (p := ⟨gb807, 1, none⟩) (Kd.Q_far (p := ⟨gb807, 0, none⟩) (Kd.Q_types (Kd.Q_types O6.1 B8.1 (by decide)) B2.1 (by decide)) (fun _ hk => hk.1.2) (.int .i64 t801)) (fun _ hk => hk.1.2) (.int .i64 t802)) (fun _ hk => hk.1.2) (.slice Ao77 t803.length co77)) (fun _ hk => hk.2) (.int .i64 t801)) (fun _ hk => hk.2) (.int .i64 t802)) (fun _ hk => hk.2) (.slice Ao77 t803.length co77)) (fun _ hk => trivial)⟩, ⟨Kd.Q_of_R (Z114 O8 B8 B2)⟩, ⟨Z53 N0 N2 B0⟩, ⟨by refine sqPut (cs := #[.int .i64 t801, .int .i64 t802, .slice Ao9 x6.length co9]) ?_ 2; refine sqPut (cs := #[.int .i64 t801, .int .i64 x5, .slice Ao9 x6.length co9]) ?_ 1; refine sqPut (cs := #[.int .i64 x4, .int .i64 x5, .slice Ao9 x6.length co9]) ?_ 0; refine sqFar ?_ N4; refine sqFar ?_ N4; refine sqFar ?_ N4; exact sqK B2⟩, ⟨sqB3 HB E0 E1 E2⟩⟩
            rw [if_neg c67] at H
            have c39 := sqe0 c67
            have c40 := sqn1 c67
            by_cases c84 : t13.toList = ([110, 111, 116] : List UInt8)
            ·rw [if_pos c84] at H
             have c42 := sqe1 c84
             have c43 := sqn0 c84
             clear c84
             have H' := sqa H
             clear H
             obtain ⟨Ao85, co85, eo85, _⟩ := Kd.Q_slice O7.1
             subst eo85
             try go_wp2
             replace O2 := sqa (Kd.R_drew O2.1)
             replace O6 := sqa (Kd.Q_drew O6.1)
             replace O7 := sqa (Kd.Q_drew O7.1)
             replace B0 := sqa (blk_drew B0.1)
             replace B2 := sqa (blk_drew B2.1)
             replace HB := sqa (below_drew1 HB.1)
             obtain ⟨Ao87, co87, eo87⟩ := Kd.R_slice O2.1
             (first | subst eo87 | (injection eo87 with f1_ f2_ f3_; have f4_ := f1_.symm; have f5_ := f3_.symm; clear f1_ f2_ f3_; subst f4_; subst f5_))
             have p0 : 0 ≤ (x3 : Int) := of_decide_eq_true Z7
             have q1 : x3 < (t1.length : Int) := of_decide_eq_true Z7
             obtain ⟨ad0, e0, hx0, hx1⟩ := at_T38 (Kd.R_reads' O2.1).2.2 x3 p0 q1
             cases e0
             replace p0 := eq_true p0
             replace q1 := eq_true q1
             refine start_ (n := 13) (S := fun w' => w'.cell? ⟨gb797, 0, none⟩ = some (.int .i64 x4) ∧ w'.cell? ⟨gb797, 1, none⟩ = some (.int .i64 x5) ∧ w'.cell? ⟨gb797, 2, none⟩ = some (.slice Ao85 x6.length co85) ∧ w'.cell? (ad0.add ((x3).toNat * 2)) = some (.int .i64 ((rd_T38 t1 x3).f0)) ∧ w'.cell? ⟨(ad0.add ((x3).toNat * 2)).block, (ad0.add ((x3).toNat * 2)).off + 1, none⟩ = some (.string ((rd_T38 t1 x3).f1))) (ds := []) #[false, false, false, false, false, false, false, false, false, false, false, false, false] (by kernel_rfl) rfl rfl ⟨(blk_cell B2.1 0).trans rfl, (blk_cell B2.1 1).trans rfl, (blk_cell B2.1 2).trans rfl, hx0, hx1⟩ (fun hHeld => ?_); refine with_tabW laws_FnReadJournal.tab19 laws_FnReadJournal.bits19 (fun HT_ HW_ => ?_)
             generalize wc.drew = w86 at O2 O6 O7 B0 B2 HB hx0 hx1 hHeld ⊢
             refine sqP 1 (some 103) (h := ?_)
             refine sqP 2 (some 104) (h := ?_)
             refine sqP 3 (some 105) (h := ?_)
             refine sqQ 0 (some 102) hHeld (h := ?_)
             refine sqQ 4 (some 106) hHeld (h := ?_)
             refine join_ (σ := Value × Nat) 2 #[true, true, true, true, true, true, true, true, true, true, true, false, false] (fun s_ => [(107, .string t12), (108, .tuple #[.agg #[.int .i64 t801, .int .i64 t802, s_.1], .string t13]), (17, .pointer (some ⟨s_.2, 0, none⟩)), (101, .tuple #[.agg #[.int .i64 t801, .int .i64 t802, s_.1], .string t13]), (109, .agg #[.int .i64 t801, .int .i64 t802, s_.1]), (110, .string t13)]) (fun s_ w' => (w'.cell? ⟨gb797, 0, none⟩ = some (.int .i64 x4) ∧ w'.cell? ⟨gb797, 1, none⟩ = some (.int .i64 x5) ∧ w'.cell? ⟨gb797, 2, none⟩ = some (.slice Ao85 x6.length co85) ∧ w'.cell? (ad0.add ((x3).toNat * 2)) = some (.int .i64 ((rd_T38 t1 x3).f0)) ∧ w'.cell? ⟨(ad0.add ((x3).toNat * 2)).block, (ad0.add ((x3).toNat * 2)).off + 1, none⟩ = some (.string ((rd_T38 t1 x3).f1))) ∧ (Kd.R k31 31 w' w.heap.size (fun _ => True) s_.1 t803) ∧ (Kd.R k38 38 w' w.heap.size (fun _ => True) (.slice (some ad0) t1.length co87) t1) ∧ (Kd.Q k31 31 w' w.heap.size (fun _ => True) (.slice Ao6 t9.length co6) t9) ∧ (Kd.Q k31 31 w' w.heap.size (fun _ => True) (.slice Ao85 x6.length co85) x6) ∧ (w'.heap[g0]? = some (.cells #[.int .i64 t788, .int .i64 t789, .slice Ao6 t9.length co6] 34 (0, 0))) ∧ (w'.heap[gb797]? = some (.cells #[.int .i64 x4, .int .i64 x5, .slice Ao85 x6.length co85] 34 (0, 0))) ∧ (w'.heap[s_.2]? = some (.cells #[.int .i64 0, .int .i64 0, .slice none 0 0] 34 (0, 0))) ∧ (w.heap.size ≤ s_.2) ∧ (w.heap.size ≤ s_.2) ∧ (g0 ≠ s_.2) ∧ (s_.2 ≠ g0) ∧ (gb797 ≠ s_.2) ∧ (s_.2 ≠ gb797) ∧ (Below w.heap.size w w')) ?_ ?_
             rotate_left
             ·intro hCont
              refine two_ (i := 5) (j := 10) (Ni := some 107) (Nj := some 17) #[true, true, true, true, true, true, false, false, false, false, false, false, false] #[true, true, true, true, true, false, false, false, false, false, true, false, false] rfl rfl rfl rfl (two_of HT_.out (by kernel_rfl)) (by decide) (by decide) (fun K hK => ?_) (fun K hK => ?_)
              ·skip
               refine sqg func41 #[.agg #[.int .i64 ((rd_T38 t1 x3).f0), .string ((rd_T38 t1 x3).f1)]] ?_
               with_reducible refine (F60.c kj0 ((rd_T38 t1 x3).f0) ((rd_T38 t1 x3).f1) t12 _ ?sideG A65.1).mono ?_
               (case sideG => exact Z56 E0 E1)
               rintro e w88 ⟨rfl, hb⟩
               have HS3_ := (hb.cell (World.block_lt_of_cell? _ _ (hHeld.2.2.2.1))).trans (hHeld.2.2.2.1)
               have HS4_ := (hb.cell (World.block_lt_of_cell? _ _ (hHeld.2.2.2.2))).trans (hHeld.2.2.2.2)
               refine ⟨_, rfl, ?_⟩
               replace O2 := sqU O2 hb
               replace O6 := sqa (Kd.Q_below (Z10 O6) hb)
               replace O7 := sqa (Kd.Q_below (Z10 O7) hb)
               replace B0 := sqT B0 hb
               replace B2 := sqT B2 hb
               replace HB := sqS (sqB2 HB E0 E1) hb
               refine hK.out _ _ ⟨(blk_cell B2.1 0).trans rfl, (blk_cell B2.1 1).trans rfl, (blk_cell B2.1 2).trans rfl, HS3_, HS4_⟩ (fun hHeld => ?_)
               clear hK K
               refine sqN (some 107) ?_
               refine two_ (i := 6) (j := 10) (Ni := some 108) (Nj := some 17) #[true, true, true, true, true, true, true, false, false, false, false, false, false] #[true, true, true, true, true, true, false, false, false, false, true, false, false] rfl rfl rfl rfl (two_of HT_.out (by kernel_rfl)) (by decide) (by decide) (fun K hK => ?_) (fun K hK => ?_)
               ·skip
                refine sqg func40 #[.agg #[.int .i64 x4, .int .i64 x5, .slice Ao85 x6.length co85], .string t12] ?_
                with_reducible refine (F57.c kj0 x4 x5 _ _ x6 t12 t801 t802 t803 t13 _ ?sideG ?side1 ?side2 A66.1).mono ?_
                (case sideG => exact Z56 E0 E1)
                (case side1 => exact Z45 O7)
                (case side2 => exact Z46 O7)
                rintro e w89 ⟨v11, rfl, ho0, hb⟩
                have HS3_ := (hb.cell (World.block_lt_of_cell? _ _ (hHeld.2.2.2.1))).trans (hHeld.2.2.2.1)
                have HS4_ := (hb.cell (World.block_lt_of_cell? _ _ (hHeld.2.2.2.2))).trans (hHeld.2.2.2.2)
                refine ⟨_, rfl, ?_⟩
                replace O2 := sqU O2 hb
                replace O6 := sqa (Kd.Q_below (Z10 O6) hb)
                replace O7 := sqa (Kd.Q_below (Z10 O7) hb)
                have O8 := sqL ho0 (sqB2 HB E0 E1)
                replace B0 := sqT B0 hb
                replace B2 := sqT B2 hb
                replace HB := sqS (sqB2 HB E0 E1) hb
                refine hK.out _ _ ⟨(blk_cell B2.1 0).trans rfl, (blk_cell B2.1 1).trans rfl, (blk_cell B2.1 2).trans rfl, HS3_, HS4_⟩ (fun hHeld => ?_)
                clear hK K
                refine sqN (some 108) ?_
                refine sqP 7 (some 101) (h := ?_)
                refine sqP 8 (some 109) (h := ?_)
                refine sqP 9 (some 110) (h := ?_)
                refine sq1 10 (some 17) (h := fun K hK => ?_)
                refine box_step ?hg (N := 17) ?hd (cs := #[.int .i64 0, .int .i64 0, .slice none 0 0]) (t := 34) ?hr ?_; (case hd => rfl); (case hg => rfl); (case hr => exact Z8)
                intro gb807 hg w90 hbox hb
                have HS3_ := (hb.cell (World.block_lt_of_cell? _ _ (hHeld.2.2.2.1))).trans (hHeld.2.2.2.1)
                have HS4_ := (hb.cell (World.block_lt_of_cell? _ _ (hHeld.2.2.2.2))).trans (hHeld.2.2.2.2)
                replace O2 := sqU O2 hb
                replace O6 := sqa (Kd.Q_below (Z10 O6) hb)
                replace O7 := sqa (Kd.Q_below (Z10 O7) hb)
                replace O8 := sqU O8 hb
                have B8 := sqa (hbox)
                have GW1 := sqa ((sqG hg (sqB2 HB E0 E1)))
                have E2 := sqa ((sqG hg (sqB2 HB E0 E1)))
                replace HB := sqS (sqB2 HB E0 E1) hb
                obtain ⟨N2, N3⟩ := sqM hg B0
                replace B0 := sqT B0 hb
                obtain ⟨N4, N5⟩ := sqM hg B2
                replace B2 := sqT B2 hb
                clear hb hbox hg
                refine hK.out _ _ ⟨(blk_cell B2.1 0).trans rfl, (blk_cell B2.1 1).trans rfl, (blk_cell B2.1 2).trans rfl, HS3_, HS4_⟩ (fun hHeld => ?_)
                clear hK K
                refine sqN (some 17) ?_
                exact norm_ Z34 (hCont (v11, gb807) _ ⟨hHeld, (sqR O8), (sqR O2), (Z10 O6), (Z10 O7), (sqK B0), (sqK B2), (sqK B8), GW1.1, E2.1, N2.1, N3.1, N4.1, N5.1, (sqB3 HB E0 E1 E2)⟩)
               ·skip
                refine box_step ?hg (N := 17) ?hd (cs := #[.int .i64 0, .int .i64 0, .slice none 0 0]) (t := 34) ?hr ?_; (case hd => rfl); (case hg => rfl); (case hr => exact Z8)
                intro gb807 hg w89 hbox hb
                have HS3_ := (hb.cell (World.block_lt_of_cell? _ _ (hHeld.2.2.2.1))).trans (hHeld.2.2.2.1)
                have HS4_ := (hb.cell (World.block_lt_of_cell? _ _ (hHeld.2.2.2.2))).trans (hHeld.2.2.2.2)
                replace O2 := sqU O2 hb
                replace O6 := sqa (Kd.Q_below (Z10 O6) hb)
                replace O7 := sqa (Kd.Q_below (Z10 O7) hb)
                have B8 := sqa (hbox)
                have GW1 := sqa ((sqG hg (sqB2 HB E0 E1)))
                have E2 := sqa ((sqG hg (sqB2 HB E0 E1)))
                replace HB := sqS (sqB2 HB E0 E1) hb
                obtain ⟨N2, N3⟩ := sqM hg B0
                replace B0 := sqT B0 hb
                obtain ⟨N4, N5⟩ := sqM hg B2
                replace B2 := sqT B2 hb
                clear hb hbox hg
                refine hK.out _ _ ⟨(blk_cell B2.1 0).trans rfl, (blk_cell B2.1 1).trans rfl, (blk_cell B2.1 2).trans rfl, HS3_, HS4_⟩ (fun hHeld => ?_)
                clear hK K
                refine sqN (some 17) ?_
                refine sq1 6 (some 108) (h := fun K hK => ?_)
                refine sqg func40 #[.agg #[.int .i64 x4, .int .i64 x5, .slice Ao85 x6.length co85], .string t12] ?_
                with_reducible refine (F57.c kj0 x4 x5 _ _ x6 t12 t801 t802 t803 t13 _ ?sideG ?side1 ?side2 A66.1).mono ?_
                (case sideG => exact Z49 E0 E1 E2)
                (case side1 => exact Z45 O7)
                (case side2 => exact Z46 O7)
                rintro e w90 ⟨v11, rfl, ho0, hb⟩
                have HS3_ := (hb.cell (World.block_lt_of_cell? _ _ (hHeld.2.2.2.1))).trans (hHeld.2.2.2.1)
                have HS4_ := (hb.cell (World.block_lt_of_cell? _ _ (hHeld.2.2.2.2))).trans (hHeld.2.2.2.2)
                refine ⟨_, rfl, ?_⟩
                replace O2 := sqU O2 hb
                replace O6 := sqa (Kd.Q_below (Z10 O6) hb)
                replace O7 := sqa (Kd.Q_below (Z10 O7) hb)
                have O8 := sqL ho0 (sqB3 HB E0 E1 E2)
                replace B0 := sqT B0 hb
                replace B2 := sqT B2 hb
                replace B8 := sqT B8 hb
                replace HB := sqS (sqB3 HB E0 E1 E2) hb
                refine hK.out _ _ ⟨(blk_cell B2.1 0).trans rfl, (blk_cell B2.1 1).trans rfl, (blk_cell B2.1 2).trans rfl, HS3_, HS4_⟩ (fun hHeld => ?_)
                clear hK K
                refine sqN (some 108) ?_
                refine sqP 7 (some 101) (h := ?_)
                refine sqP 8 (some 109) (h := ?_)
                refine sqP 9 (some 110) (h := ?_)
                exact norm_ Z34 (hCont (v11, gb807) _ ⟨hHeld, (sqR O8), (sqR O2), (Z10 O6), (Z10 O7), (sqK B0), (sqK B2), (sqK B8), GW1.1, E2.1, N2.1, N3.1, N4.1, N5.1, (sqB3 HB E0 E1 E2)⟩)
              ·skip
               refine box_step ?hg (N := 17) ?hd (cs := #[.int .i64 0, .int .i64 0, .slice none 0 0]) (t := 34) ?hr ?_; (case hd => rfl); (case hg => rfl); (case hr => exact Z8)
               intro gb807 hg w88 hbox hb
               have HS3_ := (hb.cell (World.block_lt_of_cell? _ _ (hHeld.2.2.2.1))).trans (hHeld.2.2.2.1)
               have HS4_ := (hb.cell (World.block_lt_of_cell? _ _ (hHeld.2.2.2.2))).trans (hHeld.2.2.2.2)
               replace O2 := sqU O2 hb
               replace O6 := sqa (Kd.Q_below (Z10 O6) hb)
               replace O7 := sqa (Kd.Q_below (Z10 O7) hb)
               have B8 := sqa (hbox)
               have GW1 := sqa ((sqG hg (sqB2 HB E0 E1)))
               have E2 := sqa ((sqG hg (sqB2 HB E0 E1)))
               replace HB := sqS (sqB2 HB E0 E1) hb
               obtain ⟨N2, N3⟩ := sqM hg B0
               replace B0 := sqT B0 hb
               obtain ⟨N4, N5⟩ := sqM hg B2
               replace B2 := sqT B2 hb
               clear hb hbox hg
               refine hK.out _ _ ⟨(blk_cell B2.1 0).trans rfl, (blk_cell B2.1 1).trans rfl, (blk_cell B2.1 2).trans rfl, HS3_, HS4_⟩ (fun hHeld => ?_)
               clear hK K
               refine sqN (some 17) ?_
               refine sq1 5 (some 107) (h := fun K hK => ?_)
               refine sqg func41 #[.agg #[.int .i64 ((rd_T38 t1 x3).f0), .string ((rd_T38 t1 x3).f1)]] ?_
               with_reducible refine (F60.c kj0 ((rd_T38 t1 x3).f0) ((rd_T38 t1 x3).f1) t12 _ ?sideG A65.1).mono ?_
               (case sideG => exact Z49 E0 E1 E2)
               rintro e w89 ⟨rfl, hb⟩
               have HS3_ := (hb.cell (World.block_lt_of_cell? _ _ (hHeld.2.2.2.1))).trans (hHeld.2.2.2.1)
               have HS4_ := (hb.cell (World.block_lt_of_cell? _ _ (hHeld.2.2.2.2))).trans (hHeld.2.2.2.2)
               refine ⟨_, rfl, ?_⟩
               replace O2 := sqU O2 hb
               replace O6 := sqa (Kd.Q_below (Z10 O6) hb)
               replace O7 := sqa (Kd.Q_below (Z10 O7) hb)
               replace B0 := sqT B0 hb
               replace B2 := sqT B2 hb
               replace B8 := sqT B8 hb
               replace HB := sqS (sqB3 HB E0 E1 E2) hb
               refine hK.out _ _ ⟨(blk_cell B2.1 0).trans rfl, (blk_cell B2.1 1).trans rfl, (blk_cell B2.1 2).trans rfl, HS3_, HS4_⟩ (fun hHeld => ?_)
               clear hK K
               refine sqN (some 107) ?_
               refine sq1 6 (some 108) (h := fun K hK => ?_)
               refine sqg func40 #[.agg #[.int .i64 x4, .int .i64 x5, .slice Ao85 x6.length co85], .string t12] ?_
               with_reducible refine (F57.c kj0 x4 x5 _ _ x6 t12 t801 t802 t803 t13 _ ?sideG ?side1 ?side2 A66.1).mono ?_
               (case sideG => exact Z49 E0 E1 E2)
               (case side1 => exact Z45 O7)
               (case side2 => exact Z46 O7)
               rintro e w90 ⟨v11, rfl, ho0, hb⟩
               have HS3_ := (hb.cell (World.block_lt_of_cell? _ _ (hHeld.2.2.2.1))).trans (hHeld.2.2.2.1)
               have HS4_ := (hb.cell (World.block_lt_of_cell? _ _ (hHeld.2.2.2.2))).trans (hHeld.2.2.2.2)
               refine ⟨_, rfl, ?_⟩
               replace O2 := sqU O2 hb
               replace O6 := sqa (Kd.Q_below (Z10 O6) hb)
               replace O7 := sqa (Kd.Q_below (Z10 O7) hb)
               have O8 := sqL ho0 (sqB3 HB E0 E1 E2)
               replace B0 := sqT B0 hb
               replace B2 := sqT B2 hb
               replace B8 := sqT B8 hb
               replace HB := sqS (sqB3 HB E0 E1 E2) hb
               refine hK.out _ _ ⟨(blk_cell B2.1 0).trans rfl, (blk_cell B2.1 1).trans rfl, (blk_cell B2.1 2).trans rfl, HS3_, HS4_⟩ (fun hHeld => ?_)
               clear hK K
               refine sqN (some 108) ?_
               refine sqP 7 (some 101) (h := ?_)
               refine sqP 8 (some 109) (h := ?_)
               refine sqP 9 (some 110) (h := ?_)
               exact norm_ Z34 (hCont (v11, gb807) _ ⟨hHeld, (sqR O8), (sqR O2), (Z10 O6), (Z10 O7), (sqK B0), (sqK B2), (sqK B8), GW1.1, E2.1, N2.1, N3.1, N4.1, N5.1, (sqB3 HB E0 E1 E2)⟩)
             rintro ⟨v11, gb807⟩ w91 ⟨hS_, h0_, h1_, h2_, h3_, h4_, h5_, h6_, h7_, h8_, h9_, h0, h1, h2, h3⟩
             replace O8 : Aside0 (Kd.R k31 31 w91 w.heap.size (fun _ => True) v11 t803) := ⟨h0_⟩
             replace O2 : Aside0 (Kd.R k38 38 w91 w.heap.size (fun _ => True) (.slice (some ad0) t1.length co87) t1) := ⟨h1_⟩
             replace O6 : Aside0 (Kd.Q k31 31 w91 w.heap.size (fun _ => True) (.slice Ao6 t9.length co6) t9) := ⟨h2_⟩
             replace O7 : Aside0 (Kd.Q k31 31 w91 w.heap.size (fun _ => True) (.slice Ao85 x6.length co85) x6) := ⟨h3_⟩
             replace B0 : Aside0 (w91.heap[g0]? = some (.cells #[.int .i64 t788, .int .i64 t789, .slice Ao6 t9.length co6] 34 (0, 0))) := ⟨h4_⟩
             replace B2 : Aside0 (w91.heap[gb797]? = some (.cells #[.int .i64 x4, .int .i64 x5, .slice Ao85 x6.length co85] 34 (0, 0))) := ⟨h5_⟩
             replace B8 : Aside0 (w91.heap[gb807]? = some (.cells #[.int .i64 0, .int .i64 0, .slice none 0 0] 34 (0, 0))) := ⟨h6_⟩
             replace GW1 : Aside0 (w.heap.size ≤ gb807) := ⟨h7_⟩
             replace E2 : Aside0 (w.heap.size ≤ gb807) := ⟨h8_⟩
             replace N2 : Aside0 (g0 ≠ gb807) := ⟨h9_⟩
             replace N3 : Aside0 (gb807 ≠ g0) := ⟨h0⟩
             replace N4 : Aside0 (gb797 ≠ gb807) := ⟨h1⟩
             replace N5 : Aside0 (gb807 ≠ gb797) := ⟨h2⟩
             replace HB : Aside0 (Below w.heap.size w w91) := ⟨h3⟩
             clear h0_ h1_ h2_ h3_ h4_ h5_ h6_ h7_ h8_ h9_ h0 h1 h2 h3
             have hHeld : w91.cell? ⟨gb797, 0, none⟩ = some (.int .i64 x4) ∧ w91.cell? ⟨gb797, 1, none⟩ = some (.int .i64 x5) ∧ w91.cell? ⟨gb797, 2, none⟩ = some (.slice Ao85 x6.length co85) ∧ w91.cell? (ad0.add ((x3).toNat * 2)) = some (.int .i64 ((rd_T38 t1 x3).f0)) ∧ w91.cell? ⟨(ad0.add ((x3).toNat * 2)).block, (ad0.add ((x3).toNat * 2)).off + 1, none⟩ = some (.string ((rd_T38 t1 x3).f1)) := hS_
             obtain ⟨Ao94, co94, eo94⟩ := Kd.R_slice O8.1
             (first | subst eo94 | (injection eo94 with f1_ f2_ f3_; have f4_ := f1_.symm; have f5_ := f3_.symm; clear f1_ f2_ f3_; subst f4_; subst f5_))
             refine norm_ (a' := ?_) ?_ ?_
             rotate_left
             ·simp only [putAll, Act.put, List.setIfInBounds_toArray, List.set_cons_zero, List.set_cons_succ]
              rfl
             refine sq1 11 none (h := fun K hK => ?_)
             have := sqY3 B8
             have := sqn4 N2 N4 N3 N5
             refine skip_ (w1 := ?_) (by rfl) rfl ?_ ?_
             rotate_left
             ·go_simp
              rfl
             refine hK.out _ _ ⟨((cell_far (p := ⟨gb807, _, none⟩) N4.1 _).trans (((cell_far (p := ⟨gb807, _, none⟩) N4.1 _).trans (((cell_far (p := ⟨gb807, _, none⟩) N4.1 _).trans (hHeld.1)))))), ((cell_far (p := ⟨gb807, _, none⟩) N4.1 _).trans (((cell_far (p := ⟨gb807, _, none⟩) N4.1 _).trans (((cell_far (p := ⟨gb807, _, none⟩) N4.1 _).trans (hHeld.2.1)))))), ((cell_far (p := ⟨gb807, _, none⟩) N4.1 _).trans (((cell_far (p := ⟨gb807, _, none⟩) N4.1 _).trans (((cell_far (p := ⟨gb807, _, none⟩) N4.1 _).trans (hHeld.2.2.1)))))), ((cell_far (p := ⟨gb807, _, none⟩) (Z42 O2 B8) _).trans (((cell_far (p := ⟨gb807, _, none⟩) (Z42 O2 B8) _).trans (((cell_far (p := ⟨gb807, _, none⟩) (Z42 O2 B8) _).trans (hHeld.2.2.2.1)))))), ((cell_far (p := ⟨gb807, _, none⟩) (Z42 O2 B8) _).trans (((cell_far (p := ⟨gb807, _, none⟩) (Z42 O2 B8) _).trans (((cell_far (p := ⟨gb807, _, none⟩) (Z42 O2 B8) _).trans (hHeld.2.2.2.2))))))⟩ (fun hHeld => ?_)
             clear hK K
             refine sqP 12 (some 18) (h := ?_)
             refine done_ (done_of HT_.out (by kernel_rfl)) ?_
             have := sqn4 N3 N2 N5 N4
             have := sqY3 B8
             have := sqn2 N1 N0
             have := sqY3 B2
             try go_wp2
             go_roundg kj0
             case measure => have := HJ2.out; have := HJ8.out; have := HK3.out; have := HK4.out; have := HJ0.out; omega
             case rel => exact ⟨(wrap64 (x3 + 1)), (t801), (t802), (t803), (.slice Ao94 t803.length co94), Z2, H', ⟨by have := HJ2.out; have := HJ8.out; have := HK3.out; have := HK4.out; have := HJ0.out; omega⟩, ⟨Z115 O2 B8 B2⟩, ⟨by (with_reducible repeat (first | apply Kd.Q_alloc | apply Kd.Q_drewN | apply Kd.Q_drew)); exact Kd.Q_mono (Kd.Q_far (p := ⟨gb797, 2, none⟩) (Kd.Q_far (p := ⟨gb797, 1, none⟩) (Kd.Q_far (p := ⟨gb797, 0, none⟩) (Kd.Q_far (p := ⟨gb807, 2, none⟩) (Kd.Q_far (p := ⟨gb807, 1, none⟩) (Kd.Q_far (p := ⟨gb807, 0, none⟩) (Kd.Q_types (Kd.Q_types O6.1 B8.1 (by decide)) B2.1 (by decide)) (fun _ hk => hk.1.2) (.int .i64 t801)) (fun _ hk => hk.1.2) (.int .i64 t802)) (fun _ hk => hk.1.2) (.slice Ao94 t803.length co94)) (fun _ hk => hk.2) (.int .i64 t801)) (fun _ hk => hk.2) (.int .i64 t802)) (fun _ hk => hk.2) (.slice Ao94 t803.length co94)) (fun _ hk => trivial)⟩, ⟨Kd.Q_of_R (Z115 O8 B8 B2)⟩, ⟨Z53 N0 N2 B0⟩, ⟨by refine sqPut (cs := #[.int .i64 t801, .int .i64 t802, .slice Ao85 x6.length co85]) ?_ 2; refine sqPut (cs := #[.int .i64 t801, .int .i64 x5, .slice Ao85 x6.length co85]) ?_ 1; refine sqPut (cs := #[.int .i64 x4, .int .i64 x5, .slice Ao85 x6.length co85]) ?_ 0; refine sqFar ?_ N4; refine sqFar ?_ N4; refine sqFar ?_ N4; exact sqK B2⟩, ⟨sqB3 HB E0 E1 E2⟩⟩
            rw [if_neg c84] at H
            exact absurd (sqo H) Z110
           obtain rfl := sqb c62
           rw [if_neg sqF] at H
           obtain ⟨⟨t808, t809, t14, t15⟩, A12, H⟩ := sqD H
           try dsimp only at H
           by_cases c44 : t2 ≤ (t0.size : Int)
           ·rw [if_pos c44] at H
            have c45 : decide (t2 ≤ (t0.size : Int)) = true := decide_eq_true c44
            clear c44
            obtain ⟨t16, A14, H⟩ := sqD H
            obtain ⟨c46, H⟩ := sqI H
            have c47 := eq_true c46
            have c48 : decide (0 ≤ t2) = true := decide_eq_true c46
            clear c46
            have c49 := eq_true (of_decide_eq_true Z7 : t2 ≤ (t0.size : Int))
            by_cases c50 : t16.toList = (t0.extract 0 (t2 : Int).toNat).toList
            ·rw [if_pos c50] at H
             have c51 := sqe1 c50
             have c52 := sqn0 c50
             clear c50
             obtain ⟨t17, A15, H⟩ := sqD H
             by_cases c53 : t17 = true
             ·subst c53
              rw [if_pos rfl] at H
              by_cases c54 : (t1.length : Int) > 40
              ·rw [if_pos c54] at H
               have c56 : decide (40 < (t1.length : Int)) = true := decide_eq_true c54
               have c57 : decide (40 < t1.length) = true := decide_eq_true (by omega)
               clear c54
               obtain ⟨t18, A16, H⟩ := sqD H
               obtain rfl := sqo H
               have := sqn2 N0 N1
               have := sqY3 B0
               obtain ⟨Ao13, co13, eo19⟩ := Kd.R_slice O2.1
               subst eo19
               try go_wp2_with (first | ((with_reducible refine sqc 28 rfl ?_); refine sqC (some 121) func28 #[.agg #[.int .i64 t788, .int .i64 t789, .slice Ao6 t9.length co6], .slice Ao13 t1.length co13] ?_; (with_reducible refine (F12.c kj0 t788 t789 _ _ t9 _ _ t1 t808 t809 t14 t15 _ ?sideG ?side1 ?side2 ?side3 ?side4 A12.1).mono ?_); (case sideG => exact Z56 E0 E1); (case side1 => exact Z45 O6); (case side2 => exact Z46 O6); (case side3 => exact Z47 O2); (case side4 => exact Z48 O2); rintro e w22 ⟨v12, rfl, ho0, hb⟩; refine ⟨_, rfl, ?_⟩; replace O2 := sqU O2 hb; replace O6 := sqa (Kd.Q_below (Z10 O6) hb); replace O7 := sqa (Kd.Q_below (Z10 O7) hb); have O9 := sqL ho0 (sqB2 HB E0 E1); obtain ⟨B0, B2⟩ := sqT2 hb B0 B2; replace HB := sqS (sqB2 HB E0 E1) hb; (try clear ho0)) | ((with_reducible refine sqd 19 rfl ?_); (try (refine gate_guard (by rfl) ?_; dsimp only)); refine sqBx w (sqB2 HB E0 E1) (cs := #[.int .i64 0, .int .i64 0, .slice none 0 0]) (t := 34) ?_; intro g1 hg w23 B9 E3 HB hb; replace O2 := sqU O2 hb; replace O6 := sqa (Kd.Q_below (Z10 O6) hb); replace O7 := sqa (Kd.Q_below (Z10 O7) hb); replace O9 := sqU O9 hb; obtain ⟨N6, N7⟩ := sqM hg B0; replace B0 := sqT B0 hb; obtain ⟨N8, N9⟩ := sqM hg B2; replace B2 := sqT B2 hb; clear hb hg; have := sqn4 N7 N6 N9 N8; have := sqY3 B9; obtain ⟨Ao14, co14, eo20⟩ := Kd.R_slice O9.1; subst eo20))
               obtain ⟨w24, hw_⟩ : ∃ w_, ((w23.setCell ⟨g1, 0, none⟩ (.int .i64 t808)).setCell ⟨g1, 1, none⟩ (.int .i64 t809)).setCell ⟨g1, 2, none⟩ (.slice Ao14 t14.length co14) = w_ := ⟨_, rfl⟩
               replace O2 : Aside0 (Kd.R k38 38 w24 w.heap.size (fun _ => True) (.slice Ao13 t1.length co13) t1) := by rw [← hw_]; exact ⟨Z116 O2 B9⟩
               replace O6 : Aside0 (Kd.Q k31 31 w24 w.heap.size (fun _ => True) (.slice Ao6 t9.length co6) t9) := by rw [← hw_]; exact ⟨Z117 O6 B9⟩
               replace O7 : Aside0 (Kd.Q k31 31 w24 w.heap.size (fun _ => True) u798002 x6) := by rw [← hw_]; exact ⟨Z117 O7 B9⟩
               replace O9 : Aside0 (Kd.R k31 31 w24 w.heap.size (fun _ => True) (.slice Ao14 t14.length co14) t14) := by rw [← hw_]; exact ⟨Z116 O9 B9⟩
               replace B0 := sqJ hw_ N6 B0
               replace B2 := sqJ hw_ N8 B2
               replace B9 : Aside0 (w24.heap[g1]? = some (.cells #[.int .i64 t808, .int .i64 t809, .slice Ao14 t14.length co14] 34 (0, 0))) := by rw [← hw_]; exact ⟨Z118 B9⟩
               replace HB : Aside0 (Below w.heap.size w w24) := by rw [← hw_]; exact ⟨sqB3 HB E0 E1 E3⟩
               rw [hw_]; clear hw_
               replace O2 := sqa (Kd.R_drew O2.1)
               replace O6 := sqa (Kd.Q_drew O6.1)
               replace O7 := sqa (Kd.Q_drew O7.1)
               replace O9 := sqa (Kd.R_drew O9.1)
               replace B0 := sqa (blk_drew B0.1)
               replace B2 := sqa (blk_drew B2.1)
               replace B9 := sqa (blk_drew B9.1)
               replace HB := sqa (below_drew1 HB.1)
               refine start_ (n := 31) (S := fun w' => w'.cell? ⟨g0, 0, none⟩ = some (.int .i64 t788) ∧ w'.cell? ⟨g0, 1, none⟩ = some (.int .i64 t789) ∧ w'.cell? ⟨g0, 2, none⟩ = some (.slice Ao6 t9.length co6)) (ds := []) #[false, false, false, false, false, false, false, false, false, false, false, false, false, false, false, false, false, false, false, false, false, false, false, false, false, false, false, false, false, false, false] (by kernel_rfl) rfl rfl (sqk1 B0) (fun hHeld => ?_); refine with_tabW laws_FnReadJournal.tab24 laws_FnReadJournal.bits24 (fun HT_ HW_ => ?_)
               generalize w24.drew = w25 at O2 O6 O7 O9 B0 B2 B9 HB hHeld ⊢
               refine sqP 0 (some 124) (h := ?_)
               refine sqP 1 (some 125) (h := ?_)
               refine sqP 2 (some 126) (h := ?_)
               refine sqP 3 (some 127) (h := ?_)
               refine sqP 4 (some 128) (h := ?_)
               refine sqP 5 (some 129) (h := ?_)
               refine sqP 7 (some 131) (h := ?_)
               refine sqP 8 (some 132) (h := ?_)
               refine sqP 9 (some 133) (h := ?_)
               refine sq1 6 (some 130) (h := fun K hK => ?_)
               refine sqg func42 #[.slice Ao13 t1.length co13] ?_
               with_reducible refine (F32.c kj0 _ _ t1 t16 _ ?sideG ?side1 ?side2 A14.1).mono ?_
               (case sideG => exact Z49 E0 E1 E3)
               (case side1 => exact Z47 O2)
               (case side2 => exact Z48 O2)
               rintro e w26 ⟨rfl, hb⟩
               refine ⟨_, rfl, ?_⟩
               replace O2 := sqU O2 hb
               replace O6 := sqa (Kd.Q_below (Z10 O6) hb)
               replace O7 := sqa (Kd.Q_below (Z10 O7) hb)
               replace O9 := sqU O9 hb
               replace B0 := sqT B0 hb
               replace B2 := sqT B2 hb
               replace B9 := sqT B9 hb
               replace HB := sqS (sqB3 HB E0 E1 E3) hb
               refine hK.out _ _ (sqk1 B0) (fun hHeld => ?_)
               clear hK K
               refine sqN (some 130) ?_
               refine sqP 10 (some 134) (h := ?_)
               refine sqP 11 (some 135) (h := ?_)
               refine sqP 12 (some 136) (h := ?_)
               refine sqQ 13 (some 137) hHeld (h := ?_)
               refine sq1 14 (some 138) (h := fun K hK => ?_)
               refine sqg func30 #[.agg #[.int .i64 t788, .int .i64 t789, .slice Ao6 t9.length co6]] ?_
               with_reducible refine (F18.c kj0 t788 t789 _ _ t9 true _ ?side1 ?side2 A15.1).mono ?_
               (case side1 => exact Z45 O6)
               (case side2 => exact Z46 O6)
               rintro e w27 ⟨rfl, hb⟩
               refine ⟨_, rfl, ?_⟩
               replace O2 := sqU O2 hb
               replace O6 := sqa (Kd.Q_below (Z10 O6) hb)
               replace O7 := sqa (Kd.Q_below (Z10 O7) hb)
               replace O9 := sqU O9 hb
               replace B0 := sqT B0 hb
               replace B2 := sqT B2 hb
               replace B9 := sqT B9 hb
               replace HB := sqS (sqB3 HB E0 E1 E3) hb
               refine hK.out _ _ (sqk1 B0) (fun hHeld => ?_)
               clear hK K
               refine sqN (some 138) ?_
               refine sqP 15 (some 139) (h := ?_)
               refine sqP 16 (some 140) (h := ?_)
               refine sqP 17 (some 141) (h := ?_)
               refine sqP 18 (some 142) (h := ?_)
               refine sqP 19 (some 143) (h := ?_)
               refine sqP 20 (some 144) (h := ?_)
               refine sqP 21 (some 145) (h := ?_)
               refine pure_ (i := 22) (N := some 146) (v := undef) (a' := ?_) #[true, true, true, true, true, true, true, true, true, true, true, true, true, true, true, true, true, true, true, true, true, true, true, false, false, false, false, false, false, false, false] rfl rfl (any_of HT_.out (by kernel_rfl)) (fun _ _ _ h => h) (Or.inr ⟨by rfl, rfl⟩) ?_ ?_
               rotate_left
               ·simp only [Act.put, List.setIfInBounds_toArray, List.set_cons_zero, List.set_cons_succ, i64_w, i32_w]
                rfl
               refine pure_ (i := 23) (N := some 147) (v := undef) (a' := ?_) #[true, true, true, true, true, true, true, true, true, true, true, true, true, true, true, true, true, true, true, true, true, true, true, true, false, false, false, false, false, false, false] rfl rfl (any_of HT_.out (by kernel_rfl)) (fun _ _ _ h => h) (Or.inr ⟨by rfl, rfl⟩) ?_ ?_
               rotate_left
               ·simp only [Act.put, List.setIfInBounds_toArray, List.set_cons_zero, List.set_cons_succ, i64_w, i32_w]
                rfl
               refine pure_ (i := 24) (N := some 148) (v := undef) (a' := ?_) #[true, true, true, true, true, true, true, true, true, true, true, true, true, true, true, true, true, true, true, true, true, true, true, true, true, false, false, false, false, false, false] rfl rfl (any_of HT_.out (by kernel_rfl)) (fun _ _ _ h => h) (Or.inr ⟨by rfl, rfl⟩) ?_ ?_
               rotate_left
               ·simp only [Act.put, List.setIfInBounds_toArray, List.set_cons_zero, List.set_cons_succ, i64_w, i32_w]
                rfl
               refine sqP 25 (some 149) (h := ?_)
               refine sqP 26 (some 150) (h := ?_)
               refine sqP 27 (some 151) (h := ?_)
               refine sq1 28 (some 152) (h := fun K hK => ?_)
               refine sqg func24 #[] ?_
               with_reducible refine (F62.c kj0  t18 _ A16.1).mono ?_
               rintro e w28 ⟨rfl, hb⟩
               refine ⟨_, rfl, ?_⟩
               replace O2 := sqU O2 hb
               replace O6 := sqa (Kd.Q_below (Z10 O6) hb)
               replace O7 := sqa (Kd.Q_below (Z10 O7) hb)
               replace O9 := sqU O9 hb
               replace B0 := sqT B0 hb
               replace B2 := sqT B2 hb
               replace B9 := sqT B9 hb
               replace HB := sqS (sqB3 HB E0 E1 E3) hb
               refine hK.out _ _ (sqk1 B0) (fun hHeld => ?_)
               clear hK K
               refine sqN (some 152) ?_
               refine sqP 29 (some 153) (h := ?_)
               refine sqP 30 (some 4) (h := ?_)
               refine done_ (done_of HT_.out (by kernel_rfl)) ?_
               try go_wp2
               go_ret
               exact ⟨Z14, sqB3 HB E0 E1 E3⟩
              rw [if_neg c54] at H
              have c56 : decide (40 < (t1.length : Int)) = false := decide_eq_false c54
              have c57 : decide (40 < t1.length) = false := decide_eq_false (by omega)
              clear c54
              obtain ⟨t19, A17, H⟩ := sqD H
              by_cases c58 : t19 = true
              ·subst c58
               rw [if_pos rfl] at H
               obtain ⟨t20, A18, H⟩ := sqD H
               obtain rfl := sqo H
               have := sqn2 N0 N1
               have := sqY3 B0
               obtain ⟨Ao19, co19, eo21⟩ := Kd.R_slice O2.1
               subst eo21
               try go_wp2_with (first | ((with_reducible refine sqc 28 rfl ?_); refine sqC (some 121) func28 #[.agg #[.int .i64 t788, .int .i64 t789, .slice Ao6 t9.length co6], .slice Ao19 t1.length co19] ?_; (with_reducible refine (F12.c kj0 t788 t789 _ _ t9 _ _ t1 t808 t809 t14 t15 _ ?sideG ?side1 ?side2 ?side3 ?side4 A12.1).mono ?_); (case sideG => exact Z56 E0 E1); (case side1 => exact Z45 O6); (case side2 => exact Z46 O6); (case side3 => exact Z47 O2); (case side4 => exact Z48 O2); rintro e w29 ⟨v12, rfl, ho0, hb⟩; refine ⟨_, rfl, ?_⟩; replace O2 := sqU O2 hb; replace O6 := sqa (Kd.Q_below (Z10 O6) hb); replace O7 := sqa (Kd.Q_below (Z10 O7) hb); have O9 := sqL ho0 (sqB2 HB E0 E1); obtain ⟨B0, B2⟩ := sqT2 hb B0 B2; replace HB := sqS (sqB2 HB E0 E1) hb; (try clear ho0)) | ((with_reducible refine sqd 19 rfl ?_); (try (refine gate_guard (by rfl) ?_; dsimp only)); refine sqBx w (sqB2 HB E0 E1) (cs := #[.int .i64 0, .int .i64 0, .slice none 0 0]) (t := 34) ?_; intro g1 hg w30 B9 E3 HB hb; replace O2 := sqU O2 hb; replace O6 := sqa (Kd.Q_below (Z10 O6) hb); replace O7 := sqa (Kd.Q_below (Z10 O7) hb); replace O9 := sqU O9 hb; obtain ⟨N6, N7⟩ := sqM hg B0; replace B0 := sqT B0 hb; obtain ⟨N8, N9⟩ := sqM hg B2; replace B2 := sqT B2 hb; clear hb hg; have := sqn4 N7 N6 N9 N8; have := sqY3 B9; obtain ⟨Ao20, co20, eo22⟩ := Kd.R_slice O9.1; subst eo22))
               obtain ⟨w31, hw_⟩ : ∃ w_, ((w30.setCell ⟨g1, 0, none⟩ (.int .i64 t808)).setCell ⟨g1, 1, none⟩ (.int .i64 t809)).setCell ⟨g1, 2, none⟩ (.slice Ao20 t14.length co20) = w_ := ⟨_, rfl⟩
               replace O2 : Aside0 (Kd.R k38 38 w31 w.heap.size (fun _ => True) (.slice Ao19 t1.length co19) t1) := by rw [← hw_]; exact ⟨Z119 O2 B9⟩
               replace O6 : Aside0 (Kd.Q k31 31 w31 w.heap.size (fun _ => True) (.slice Ao6 t9.length co6) t9) := by rw [← hw_]; exact ⟨Z120 O6 B9⟩
               replace O7 : Aside0 (Kd.Q k31 31 w31 w.heap.size (fun _ => True) u798002 x6) := by rw [← hw_]; exact ⟨Z120 O7 B9⟩
               replace O9 : Aside0 (Kd.R k31 31 w31 w.heap.size (fun _ => True) (.slice Ao20 t14.length co20) t14) := by rw [← hw_]; exact ⟨Z119 O9 B9⟩
               replace B0 := sqJ hw_ N6 B0
               replace B2 := sqJ hw_ N8 B2
               replace B9 : Aside0 (w31.heap[g1]? = some (.cells #[.int .i64 t808, .int .i64 t809, .slice Ao20 t14.length co20] 34 (0, 0))) := by rw [← hw_]; exact ⟨Z118 B9⟩
               replace HB : Aside0 (Below w.heap.size w w31) := by rw [← hw_]; exact ⟨sqB3 HB E0 E1 E3⟩
               rw [hw_]; clear hw_
               replace O2 := sqa (Kd.R_drew O2.1)
               replace O6 := sqa (Kd.Q_drew O6.1)
               replace O7 := sqa (Kd.Q_drew O7.1)
               replace O9 := sqa (Kd.R_drew O9.1)
               replace B0 := sqa (blk_drew B0.1)
               replace B2 := sqa (blk_drew B2.1)
               replace B9 := sqa (blk_drew B9.1)
               replace HB := sqa (below_drew1 HB.1)
               refine start_ (n := 31) (S := fun w' => w'.cell? ⟨g0, 0, none⟩ = some (.int .i64 t788) ∧ w'.cell? ⟨g0, 1, none⟩ = some (.int .i64 t789) ∧ w'.cell? ⟨g0, 2, none⟩ = some (.slice Ao6 t9.length co6) ∧ w'.cell? ⟨gb797, 0, none⟩ = some (.int .i64 x4) ∧ w'.cell? ⟨gb797, 1, none⟩ = some (.int .i64 x5) ∧ w'.cell? ⟨gb797, 2, none⟩ = some (u798002) ∧ w'.cell? ⟨g1, 0, none⟩ = some (.int .i64 t808) ∧ w'.cell? ⟨g1, 1, none⟩ = some (.int .i64 t809) ∧ w'.cell? ⟨g1, 2, none⟩ = some (.slice Ao20 t14.length co20)) (ds := []) #[false, false, false, false, false, false, false, false, false, false, false, false, false, false, false, false, false, false, false, false, false, false, false, false, false, false, false, false, false, false, false] (by kernel_rfl) rfl rfl (sqk3 B0 B2 B9) (fun hHeld => ?_); refine with_tabW laws_FnReadJournal.tab24 laws_FnReadJournal.bits24 (fun HT_ HW_ => ?_)
               generalize w31.drew = w32 at O2 O6 O7 O9 B0 B2 B9 HB hHeld ⊢
               refine sqP 0 (some 124) (h := ?_)
               refine sqP 1 (some 125) (h := ?_)
               refine sqP 2 (some 126) (h := ?_)
               refine sqP 3 (some 127) (h := ?_)
               refine sqP 4 (some 128) (h := ?_)
               refine sqP 5 (some 129) (h := ?_)
               refine sqP 7 (some 131) (h := ?_)
               refine sqP 8 (some 132) (h := ?_)
               refine sqP 9 (some 133) (h := ?_)
               refine sq1 6 (some 130) (h := fun K hK => ?_)
               refine sqg func42 #[.slice Ao19 t1.length co19] ?_
               with_reducible refine (F32.c kj0 _ _ t1 t16 _ ?sideG ?side1 ?side2 A14.1).mono ?_
               (case sideG => exact Z49 E0 E1 E3)
               (case side1 => exact Z47 O2)
               (case side2 => exact Z48 O2)
               rintro e w33 ⟨rfl, hb⟩
               refine ⟨_, rfl, ?_⟩
               replace O2 := sqU O2 hb
               replace O6 := sqa (Kd.Q_below (Z10 O6) hb)
               replace O7 := sqa (Kd.Q_below (Z10 O7) hb)
               replace O9 := sqU O9 hb
               replace B0 := sqT B0 hb
               replace B2 := sqT B2 hb
               replace B9 := sqT B9 hb
               replace HB := sqS (sqB3 HB E0 E1 E3) hb
               refine hK.out _ _ (sqk3 B0 B2 B9) (fun hHeld => ?_)
               clear hK K
               refine sqN (some 130) ?_
               refine sqP 10 (some 134) (h := ?_)
               refine sqP 11 (some 135) (h := ?_)
               refine sqP 12 (some 136) (h := ?_)
               refine sqQ 13 (some 137) hHeld (h := ?_)
               refine sq1 14 (some 138) (h := fun K hK => ?_)
               refine sqg func30 #[.agg #[.int .i64 t788, .int .i64 t789, .slice Ao6 t9.length co6]] ?_
               with_reducible refine (F18.c kj0 t788 t789 _ _ t9 true _ ?side1 ?side2 A15.1).mono ?_
               (case side1 => exact Z45 O6)
               (case side2 => exact Z46 O6)
               rintro e w34 ⟨rfl, hb⟩
               refine ⟨_, rfl, ?_⟩
               replace O2 := sqU O2 hb
               replace O6 := sqa (Kd.Q_below (Z10 O6) hb)
               replace O7 := sqa (Kd.Q_below (Z10 O7) hb)
               replace O9 := sqU O9 hb
               replace B0 := sqT B0 hb
               replace B2 := sqT B2 hb
               replace B9 := sqT B9 hb
               replace HB := sqS (sqB3 HB E0 E1 E3) hb
               obtain ⟨Ao21, co21, eo23, _⟩ := Kd.Q_slice O7.1
               (first | subst eo23 | (injection eo23 with f1_ f2_ f3_; have f4_ := f1_.symm; have f5_ := f3_.symm; clear f1_ f2_ f3_; subst f4_; subst f5_))
               refine hK.out _ _ (sqk3 B0 B2 B9) (fun hHeld => ?_)
               clear hK K
               refine sqN (some 138) ?_
               refine sqP 15 (some 139) (h := ?_)
               refine sqP 16 (some 140) (h := ?_)
               refine sqP 17 (some 141) (h := ?_)
               refine sqP 18 (some 142) (h := ?_)
               refine sqP 19 (some 143) (h := ?_)
               refine sqP 20 (some 144) (h := ?_)
               refine sqP 21 (some 145) (h := ?_)
               refine sqQ 22 (some 146) hHeld (h := ?_)
               refine sqQ 23 (some 147) hHeld (h := ?_)
               refine sq1 24 (some 148) (h := fun K hK => ?_)
               refine sqg func22 #[.agg #[.int .i64 x4, .int .i64 x5, .slice Ao21 x6.length co21], .agg #[.int .i64 t808, .int .i64 t809, .slice Ao20 t14.length co20]] ?_
               with_reducible refine (F23.c kj0 x4 x5 _ _ x6 t808 t809 _ _ t14 true _ ?side1 ?side2 ?side3 ?side4 A17.1).mono ?_
               (case side1 => exact Z45 O7)
               (case side2 => exact Z46 O7)
               (case side3 => exact Z47 O9)
               (case side4 => exact Z48 O9)
               rintro e w35 ⟨rfl, hb⟩
               refine ⟨_, rfl, ?_⟩
               replace O2 := sqU O2 hb
               replace O6 := sqa (Kd.Q_below (Z10 O6) hb)
               replace O7 := sqa (Kd.Q_below (Z10 O7) hb)
               replace O9 := sqU O9 hb
               replace B0 := sqT B0 hb
               replace B2 := sqT B2 hb
               replace B9 := sqT B9 hb
               replace HB := sqS (sqB3 HB E0 E1 E3) hb
               refine hK.out _ _ (sqk3 B0 B2 B9) (fun hHeld => ?_)
               clear hK K
               refine sqN (some 148) ?_
               refine sqP 25 (some 149) (h := ?_)
               refine sqP 26 (some 150) (h := ?_)
               refine sqP 27 (some 151) (h := ?_)
               refine sq1 28 (some 152) (h := fun K hK => ?_)
               refine sqg func24 #[] ?_
               with_reducible refine (F62.c kj0  t20 _ A18.1).mono ?_
               rintro e w36 ⟨rfl, hb⟩
               refine ⟨_, rfl, ?_⟩
               replace O2 := sqU O2 hb
               replace O6 := sqa (Kd.Q_below (Z10 O6) hb)
               replace O7 := sqa (Kd.Q_below (Z10 O7) hb)
               replace O9 := sqU O9 hb
               replace B0 := sqT B0 hb
               replace B2 := sqT B2 hb
               replace B9 := sqT B9 hb
               replace HB := sqS (sqB3 HB E0 E1 E3) hb
               refine hK.out _ _ (sqk3 B0 B2 B9) (fun hHeld => ?_)
               clear hK K
               refine sqN (some 152) ?_
               refine sqP 29 (some 153) (h := ?_)
               refine sqP 30 (some 4) (h := ?_)
               refine done_ (done_of HT_.out (by kernel_rfl)) ?_
               try go_wp2
               go_ret
               exact ⟨Z14, sqB3 HB E0 E1 E3⟩
              rw [if_neg c58] at H
              exact absurd (sqo H) Z110
             obtain rfl := sqb c53
             rw [if_neg sqF] at H
             obtain ⟨t21, A19, H⟩ := sqD H
             obtain rfl := sqo H
             have := sqn2 N0 N1
             have := sqY3 B0
             obtain ⟨Ao22, co22, eo24⟩ := Kd.R_slice O2.1
             subst eo24
             try go_wp2_with (first | ((with_reducible refine sqc 28 rfl ?_); refine sqC (some 121) func28 #[.agg #[.int .i64 t788, .int .i64 t789, .slice Ao6 t9.length co6], .slice Ao22 t1.length co22] ?_; (with_reducible refine (F12.c kj0 t788 t789 _ _ t9 _ _ t1 t808 t809 t14 t15 _ ?sideG ?side1 ?side2 ?side3 ?side4 A12.1).mono ?_); (case sideG => exact Z56 E0 E1); (case side1 => exact Z45 O6); (case side2 => exact Z46 O6); (case side3 => exact Z47 O2); (case side4 => exact Z48 O2); rintro e w37 ⟨v12, rfl, ho0, hb⟩; refine ⟨_, rfl, ?_⟩; replace O2 := sqU O2 hb; replace O6 := sqa (Kd.Q_below (Z10 O6) hb); replace O7 := sqa (Kd.Q_below (Z10 O7) hb); have O9 := sqL ho0 (sqB2 HB E0 E1); obtain ⟨B0, B2⟩ := sqT2 hb B0 B2; replace HB := sqS (sqB2 HB E0 E1) hb; (try clear ho0)) | ((with_reducible refine sqd 19 rfl ?_); (try (refine gate_guard (by rfl) ?_; dsimp only)); refine sqBx w (sqB2 HB E0 E1) (cs := #[.int .i64 0, .int .i64 0, .slice none 0 0]) (t := 34) ?_; intro g1 hg w39 B9 E3 HB hb; replace O2 := sqU O2 hb; replace O6 := sqa (Kd.Q_below (Z10 O6) hb); replace O7 := sqa (Kd.Q_below (Z10 O7) hb); replace O9 := sqU O9 hb; obtain ⟨N6, N7⟩ := sqM hg B0; replace B0 := sqT B0 hb; obtain ⟨N8, N9⟩ := sqM hg B2; replace B2 := sqT B2 hb; clear hb hg; have := sqn4 N7 N6 N9 N8; have := sqY3 B9; obtain ⟨Ao23, co23, eo25⟩ := Kd.R_slice O9.1; subst eo25))
             obtain ⟨w40, hw_⟩ : ∃ w_, ((w39.setCell ⟨g1, 0, none⟩ (.int .i64 t808)).setCell ⟨g1, 1, none⟩ (.int .i64 t809)).setCell ⟨g1, 2, none⟩ (.slice Ao23 t14.length co23) = w_ := ⟨_, rfl⟩
             replace O2 : Aside0 (Kd.R k38 38 w40 w.heap.size (fun _ => True) (.slice Ao22 t1.length co22) t1) := by rw [← hw_]; exact ⟨Z121 O2 B9⟩
             replace O6 : Aside0 (Kd.Q k31 31 w40 w.heap.size (fun _ => True) (.slice Ao6 t9.length co6) t9) := by rw [← hw_]; exact ⟨Z122 O6 B9⟩
             replace O7 : Aside0 (Kd.Q k31 31 w40 w.heap.size (fun _ => True) u798002 x6) := by rw [← hw_]; exact ⟨Z122 O7 B9⟩
             replace O9 : Aside0 (Kd.R k31 31 w40 w.heap.size (fun _ => True) (.slice Ao23 t14.length co23) t14) := by rw [← hw_]; exact ⟨Z121 O9 B9⟩
             replace B0 := sqJ hw_ N6 B0
             replace B2 := sqJ hw_ N8 B2
             replace B9 : Aside0 (w40.heap[g1]? = some (.cells #[.int .i64 t808, .int .i64 t809, .slice Ao23 t14.length co23] 34 (0, 0))) := by rw [← hw_]; exact ⟨Z118 B9⟩
             replace HB : Aside0 (Below w.heap.size w w40) := by rw [← hw_]; exact ⟨sqB3 HB E0 E1 E3⟩
             rw [hw_]; clear hw_
             replace O2 := sqa (Kd.R_drew O2.1)
             replace O6 := sqa (Kd.Q_drew O6.1)
             replace O7 := sqa (Kd.Q_drew O7.1)
             replace O9 := sqa (Kd.R_drew O9.1)
             replace B0 := sqa (blk_drew B0.1)
             replace B2 := sqa (blk_drew B2.1)
             replace B9 := sqa (blk_drew B9.1)
             replace HB := sqa (below_drew1 HB.1)
             refine start_ (n := 31) (S := fun w' => w'.cell? ⟨g0, 0, none⟩ = some (.int .i64 t788) ∧ w'.cell? ⟨g0, 1, none⟩ = some (.int .i64 t789) ∧ w'.cell? ⟨g0, 2, none⟩ = some (.slice Ao6 t9.length co6)) (ds := []) #[false, false, false, false, false, false, false, false, false, false, false, false, false, false, false, false, false, false, false, false, false, false, false, false, false, false, false, false, false, false, false] (by kernel_rfl) rfl rfl (sqk1 B0) (fun hHeld => ?_); refine with_tabW laws_FnReadJournal.tab24 laws_FnReadJournal.bits24 (fun HT_ HW_ => ?_)
             generalize w40.drew = w41 at O2 O6 O7 O9 B0 B2 B9 HB hHeld ⊢
             refine sqP 0 (some 124) (h := ?_)
             refine sqP 1 (some 125) (h := ?_)
             refine sqP 2 (some 126) (h := ?_)
             refine sqP 3 (some 127) (h := ?_)
             refine sqP 4 (some 128) (h := ?_)
             refine sqP 5 (some 129) (h := ?_)
             refine sqP 7 (some 131) (h := ?_)
             refine sqP 8 (some 132) (h := ?_)
             refine sqP 9 (some 133) (h := ?_)
             refine sq1 6 (some 130) (h := fun K hK => ?_)
             refine sqg func42 #[.slice Ao22 t1.length co22] ?_
             with_reducible refine (F32.c kj0 _ _ t1 t16 _ ?sideG ?side1 ?side2 A14.1).mono ?_
             (case sideG => exact Z49 E0 E1 E3)
             (case side1 => exact Z47 O2)
             (case side2 => exact Z48 O2)
             rintro e w42 ⟨rfl, hb⟩
             refine ⟨_, rfl, ?_⟩
             replace O2 := sqU O2 hb
             replace O6 := sqa (Kd.Q_below (Z10 O6) hb)
             replace O7 := sqa (Kd.Q_below (Z10 O7) hb)
             replace O9 := sqU O9 hb
             replace B0 := sqT B0 hb
             replace B2 := sqT B2 hb
             replace B9 := sqT B9 hb
             replace HB := sqS (sqB3 HB E0 E1 E3) hb
             refine hK.out _ _ (sqk1 B0) (fun hHeld => ?_)
             clear hK K
             refine sqN (some 130) ?_
             refine sqP 10 (some 134) (h := ?_)
             refine sqP 11 (some 135) (h := ?_)
             refine sqP 12 (some 136) (h := ?_)
             refine sqQ 13 (some 137) hHeld (h := ?_)
             refine sq1 14 (some 138) (h := fun K hK => ?_)
             refine sqg func30 #[.agg #[.int .i64 t788, .int .i64 t789, .slice Ao6 t9.length co6]] ?_
             with_reducible refine (F18.c kj0 t788 t789 _ _ t9 false _ ?side1 ?side2 A15.1).mono ?_
             (case side1 => exact Z45 O6)
             (case side2 => exact Z46 O6)
             rintro e w43 ⟨rfl, hb⟩
             refine ⟨_, rfl, ?_⟩
             replace O2 := sqU O2 hb
             replace O6 := sqa (Kd.Q_below (Z10 O6) hb)
             replace O7 := sqa (Kd.Q_below (Z10 O7) hb)
             replace O9 := sqU O9 hb
             replace B0 := sqT B0 hb
             replace B2 := sqT B2 hb
             replace B9 := sqT B9 hb
             replace HB := sqS (sqB3 HB E0 E1 E3) hb
             refine hK.out _ _ (sqk1 B0) (fun hHeld => ?_)
             clear hK K
             refine sqN (some 138) ?_
             refine sqP 15 (some 139) (h := ?_)
             refine sqP 16 (some 140) (h := ?_)
             refine pure_ (i := 17) (N := some 141) (v := undef) (a' := ?_) #[true, true, true, true, true, true, true, true, true, true, true, true, true, true, true, true, true, true, false, false, false, false, false, false, false, false, false, false, false, false, false] rfl rfl (any_of HT_.out (by kernel_rfl)) (fun _ _ _ h => h) (Or.inr ⟨by rfl, rfl⟩) ?_ ?_
             rotate_left
             ·simp only [Act.put, List.setIfInBounds_toArray, List.set_cons_zero, List.set_cons_succ, i64_w, i32_w]
              rfl
             refine pure_ (i := 18) (N := some 142) (v := undef) (a' := ?_) #[true, true, true, true, true, true, true, true, true, true, true, true, true, true, true, true, true, true, true, false, false, false, false, false, false, false, false, false, false, false, false] rfl rfl (any_of HT_.out (by kernel_rfl)) (fun _ _ _ h => h) (Or.inr ⟨by rfl, rfl⟩) ?_ ?_
             rotate_left
             ·simp only [Act.put, List.setIfInBounds_toArray, List.set_cons_zero, List.set_cons_succ, i64_w, i32_w]
              rfl
             refine pure_ (i := 19) (N := some 143) (v := undef) (a' := ?_) #[true, true, true, true, true, true, true, true, true, true, true, true, true, true, true, true, true, true, true, true, false, false, false, false, false, false, false, false, false, false, false] rfl rfl (any_of HT_.out (by kernel_rfl)) (fun _ _ _ h => h) (Or.inr ⟨by rfl, rfl⟩) ?_ ?_
             rotate_left
             ·simp only [Act.put, List.setIfInBounds_toArray, List.set_cons_zero, List.set_cons_succ, i64_w, i32_w]
              rfl
             refine sqP 20 (some 144) (h := ?_)
             refine sqP 21 (some 145) (h := ?_)
             refine pure_ (i := 22) (N := some 146) (v := undef) (a' := ?_) #[true, true, true, true, true, true, true, true, true, true, true, true, true, true, true, true, true, true, true, true, true, true, true, false, false, false, false, false, false, false, false] rfl rfl (any_of HT_.out (by kernel_rfl)) (fun _ _ _ h => h) (Or.inr ⟨by rfl, rfl⟩) ?_ ?_
             rotate_left
             ·simp only [Act.put, List.setIfInBounds_toArray, List.set_cons_zero, List.set_cons_succ, i64_w, i32_w]
              rfl
             refine pure_ (i := 23) (N := some 147) (v := undef) (a' := ?_) #[true, true, true, true, true, true, true, true, true, true, true, true, true, true, true, true, true, true, true, true, true, true, true, true, false, false, false, false, false, false, false] rfl rfl (any_of HT_.out (by kernel_rfl)) (fun _ _ _ h => h) (Or.inr ⟨by rfl, rfl⟩) ?_ ?_
             rotate_left
             ·simp only [Act.put, List.setIfInBounds_toArray, List.set_cons_zero, List.set_cons_succ, i64_w, i32_w]
              rfl
             refine pure_ (i := 24) (N := some 148) (v := undef) (a' := ?_) #[true, true, true, true, true, true, true, true, true, true, true, true, true, true, true, true, true, true, true, true, true, true, true, true, true, false, false, false, false, false, false] rfl rfl (any_of HT_.out (by kernel_rfl)) (fun _ _ _ h => h) (Or.inr ⟨by rfl, rfl⟩) ?_ ?_
             rotate_left
             ·simp only [Act.put, List.setIfInBounds_toArray, List.set_cons_zero, List.set_cons_succ, i64_w, i32_w]
              rfl
             refine sqP 25 (some 149) (h := ?_)
             refine sqP 26 (some 150) (h := ?_)
             refine sqP 27 (some 151) (h := ?_)
             refine sq1 28 (some 152) (h := fun K hK => ?_)
             refine sqg func24 #[] ?_
             with_reducible refine (F62.c kj0  t21 _ A19.1).mono ?_
             rintro e w44 ⟨rfl, hb⟩
             refine ⟨_, rfl, ?_⟩
             replace O2 := sqU O2 hb
             replace O6 := sqa (Kd.Q_below (Z10 O6) hb)
             replace O7 := sqa (Kd.Q_below (Z10 O7) hb)
             replace O9 := sqU O9 hb
             replace B0 := sqT B0 hb
             replace B2 := sqT B2 hb
             replace B9 := sqT B9 hb
             replace HB := sqS (sqB3 HB E0 E1 E3) hb
             refine hK.out _ _ (sqk1 B0) (fun hHeld => ?_)
             clear hK K
             refine sqN (some 152) ?_
             refine sqP 29 (some 153) (h := ?_)
             refine sqP 30 (some 4) (h := ?_)
             refine done_ (done_of HT_.out (by kernel_rfl)) ?_
             try go_wp2
             go_ret
             exact ⟨Z14, sqB3 HB E0 E1 E3⟩
            rw [if_neg c50] at H
            exact absurd (sqo H) Z110
           rw [if_neg c44] at H
           exact absurd (sqo H) Z110
/-- THE ONE PURE STATEMENT of laws_FnReadJournal: yours. -/
def laws_FnReadJournal.Pure : Prop := ∀ (l0 : List Int) (l1 : List Int), l0.length ≤ maxLen → l0.length * 1 ≤ 140737488351232 → (∀ x ∈ l0, (Lit.int .u8 x).wf = true) → l1.length ≤ maxLen → l1.length * 1 ≤ 140737488351232 → (∀ x ∈ l1, (Lit.int .u8 x).wf = true) → ∃ k, laws_FnReadJournal.f k l0 l1 = some true
theorem laws_FnReadJournal.walk (P : laws_FnReadJournal.Pure) (a0 : Option Addr) (len0 cap0 : Nat) (z0 : List Int) (a1 : Option Addr) (len1 cap1 : Nat) (z1 : List Int) (w : World) (hG : Glob w) (w0 : (a0 = none ∧ len0 = 0 ∧ cap0 = 0 ∧ z0 = []) ∨ ∃ x, a0 = some x ∧ len0 ≤ cap0 ∧ cap0 ≤ maxLen ∧ z0.length = cap0 ∧ (∀ i, i < z0.length → w.cell? (x.add i) = some (.int .u8 (z0.getD i 0))) ∧ ∀ n ∈ z0, (Lit.int .u8 n).wf = true) (y0 : len0 * 1 ≤ 140737488351232) (w1 : (a1 = none ∧ len1 = 0 ∧ cap1 = 0 ∧ z1 = []) ∨ ∃ x, a1 = some x ∧ len1 ≤ cap1 ∧ cap1 ≤ maxLen ∧ z1.length = cap1 ∧ (∀ i, i < z1.length → w.cell? (x.add i) = some (.int .u8 (z1.getD i 0))) ∧ ∀ n ∈ z1, (Lit.int .u8 n).wf = true) (y1 : len1 * 1 ≤ 140737488351232) :
  Calls prog 7 #[.slice a0 len0 cap0, .slice a1 len1 cap1] w fun e w' => e = .returned (.bool true) ∧ Below w.heap.size w w' := by
 obtain ⟨l0, rfl, hr0, hm0, hw0, hc0⟩ := ReadsInt.ofRowC w0
 obtain ⟨l1, rfl, hr1, hm1, hw1, hc1⟩ := ReadsInt.ofRowC w1
 obtain ⟨k, h⟩ := P l0 l1 hm0 y0 hw0 hm1 y1 hw1
 refine (laws_FnReadJournal.calls k _ _ l0 _ _ l1 true w hG (Kd.C_of_reads (d := (0 : Int)) (h1 := fun _ => rfl) hr0) hc0 (Kd.C_of_reads (d := (0 : Int)) (h1 := fun _ => rfl) hr1) hc1 ⟨rfl⟩ h).mono ?_
 rintro e w' ⟨rfl, hd⟩
 exact ⟨rfl, hd⟩


end Go.Proofs.YtofmlbgfcohhoaaGreatDoor.PFnReadJournal
