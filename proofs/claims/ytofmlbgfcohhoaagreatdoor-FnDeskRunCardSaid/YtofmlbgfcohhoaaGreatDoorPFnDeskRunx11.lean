/- Lean functions of the Go functions that the law FnDeskRun reaches, each with its contract: made by a program of this session. -/
import Derived.Test.YtofmlbgfcohhoaaGreatDoorPFnDeskRunx0
import Derived.Test.YtofmlbgfcohhoaaGreatDoorPFnDeskRunx4
import Derived.Test.YtofmlbgfcohhoaaGreatDoorPFnDeskRunx5
import Derived.Test.YtofmlbgfcohhoaaGreatDoorPFnDeskRunx10
namespace Go.Proofs.YtofmlbgfcohhoaaGreatDoor.PFnDeskRun
open Go.RowKit Go.Proofs.YtofmlbgfcohhoaaGreatDoorW.PrintWords Go.Proofs.YtofmlbgfcohhoaaGreatDoorW.PrintLast Go.Proofs.YtofmlbgfcohhoaaGreatDoorW.PrintMore Go.Proofs.YtofmlbgfcohhoaaGreatDoor.Lib
attribute [local go_sem] max2_int min2_int max_two min_two max_three min_three max_four min_four   -- for this text's walks alone
set_option linter.unusedVariables false
set_option linter.unusedSimpArgs false

/-! ### spec_l20Rd_odd: function 74 -/
def spec_l20Rd_odd.f (k : Nat) (s0_0 : List Int) (s0_1 : Int) (a1 : Int) : Option (Bool × Int) := if a1 > 0 then ((spec_l20Rd_pick.f k s0_0 s0_1 a1).bind fun bt275 => (some ((bt275.1 == (wrap64 (a1 - 1))), bt275.2))) else (some (false, s0_1))
theorem spec_l20Rd_odd.mono : ∀ a0 a1 a2 k, LeO (spec_l20Rd_odd.f k a0 a1 a2) (spec_l20Rd_odd.f (k + 1) a0 a1 a2) := by
 intro a0 a1 a2 k
 unfold spec_l20Rd_odd.f
 repeat' first
   | (with_reducible exact spec_l20Rd_pick.mono _ _ _ _)
   | (with_reducible exact LeO.refl _)
   | (with_reducible exact LeO.none _)
   | (with_reducible refine LeO.ite ?_ ?_)
   | (with_reducible refine LeO.bind ?_ (fun _ => ?_))
set_option maxHeartbeats 8000000 in
set_option maxRecDepth 100000 in
theorem spec_l20Rd_odd.calls (k : Nat) (g : Nat) (s0_0 : List Int) (s0_1 : Int) (a1 : Int) (r1 : Bool) (r2 : Int) (w0 w : World) (hI : IsS131 w0 w g s0_0 s0_1) (hB : Below w0.heap.size w0 w) (h : spec_l20Rd_odd.f k s0_0 s0_1 a1 = some (r1, r2)) :
  Calls Tryz.prog 74 #[.pointer (some ⟨g, 0, none⟩), .int .i64 a1] w fun e w' => e = .returned (.bool r1) ∧ IsS131 w0 w' g s0_0 r2 ∧ Below w0.heap.size w0 w' ∧ KeepBut w w' g none := by
 have HI0 := Aside0.mk hI
 have HK := Aside0.mk (KeepBut.refl w g none)
 have HL := Aside0.mk hB.size
 clear hI
 have HW0 := Aside0.mk hB.size
 have HB := Aside0.mk hB
 clear hB
 have H : (if a1 > 0 then ((spec_l20Rd_pick.f k s0_0 s0_1 a1).bind fun bt275 => (some ((bt275.1 == (wrap64 (a1 - 1))), bt275.2))) else (some (false, s0_1))) = some (r1, r2) := h
 clear h
 by_cases c3 : a1 > 0
 ·rw [if_pos c3] at H
  have c3b0 : decide (0 < a1) = true := decide_eq_true c3
  clear c3
  obtain ⟨⟨t275, t276⟩, A4, H⟩ := sqD H
  try dsimp only at H
  simp only [Option.some.injEq, Prod.mk.injEq] at H
  obtain ⟨rfl, rfl⟩ := H
  go_enter Tryz.func74, Tryz.ntmps74
  go_wp2_with (first | (go_at_call 82; (with_reducible refine (spec_l20Rd_pick.calls k g s0_0 s0_1 a1 t275 t276 w0 _ ?side1 ?side2 A4.out).mono ?_); (case side1 => exact Z21 HI0); (case side2 => exact Z23 HI0); rintro e w5 ⟨rfl, hi, hb, hk⟩; replace HK := Aside0.mk (KeepBut.trans Z22 hk (.inl rfl)); replace HB := Aside0.mk (hb); replace HI0 := Aside0.mk (hi); (try clear hb)))
  go_ret
  exact ⟨Z15, Z21 HI0, Z23 HI0, Z22⟩
 ·rw [if_neg c3] at H
  have c3b0 : decide (0 < a1) = false := decide_eq_false c3
  clear c3
  simp only [Option.some.injEq, Prod.mk.injEq] at H
  obtain ⟨rfl, rfl⟩ := H
  go_enter Tryz.func74, Tryz.ntmps74
  go_wp2
  go_ret
  exact ⟨Z15, Z21 HI0, Z23 HI0, Z22⟩

/-! ### spec_l20Dance: function 114 -/
def spec_l20Dance.l0 : Nat → Int → ByteArray → Int → List Int → Int → Option (ByteArray × Int)
 | 0, _, _, _, _, _ => none
 | k + 1, x2, x7, x8, x1000, x1001 => if x8 > 0 then ((some (([(⟨#[84]⟩ : ByteArray), (⟨#[84]⟩ : ByteArray), (⟨#[82]⟩ : ByteArray), (⟨#[116]⟩ : ByteArray), (⟨#[82]⟩ : ByteArray), (⟨#[84]⟩ : ByteArray)] : List ByteArray) : List ByteArray)).bind fun y279 => ((spec_l20Rd_pick.f k x1000 x1001 6).bind fun bt282 => (if 0 ≤ bt282.1 then (if bt282.1 < (y279.length : Int) then (if x7.size + (rdOf ByteArray.empty y279 bt282.1).size ≤ 9223372036854775807 then (spec_l20Dance.l0 k x2 (x7 ++ (rdOf ByteArray.empty y279 bt282.1)) (wrap64 (x8 - 1)) x1000 bt282.2) else (none)) else (none)) else (none)))) else ((spec_l20Rd_odd.f k x1000 x1001 x2).bind fun bt285 => (if bt285.1 = true then ((some (([(⟨#[120]⟩ : ByteArray), (⟨#[114]⟩ : ByteArray), (⟨#[84, 84, 84, 84, 84, 84, 84, 84, 84, 84, 84, 84, 84, 84, 84, 84, 84, 84, 84, 84, 84, 84, 84, 84, 84, 84, 84, 84, 84, 84, 84, 84, 84, 84, 84, 84, 84, 84, 84, 84, 84]⟩ : ByteArray)] : List ByteArray) : List ByteArray)).bind fun y287 => ((spec_l20Rd_pick.f k x1000 bt285.2 3).bind fun bt290 => (if 0 ≤ bt290.1 then (if bt290.1 < (y287.length : Int) then (if x7.size + (rdOf ByteArray.empty y287 bt290.1).size ≤ 9223372036854775807 then (some (x7 ++ (rdOf ByteArray.empty y287 bt290.1), bt290.2)) else (none)) else (none)) else (none)))) else (some (x7, bt285.2))))
def spec_l20Dance.f (k : Nat) (s0_0 : List Int) (s0_1 : Int) (a1 : Int) (a2 : Int) : Option (ByteArray × Int) := (spec_l20Rd_pick.f k s0_0 s0_1 (wrap64 (a1 + 1))).bind fun bt277 => (spec_l20Dance.l0 k a2 (⟨#[]⟩ : ByteArray) bt277.1 s0_0 bt277.2)
theorem spec_l20Dance.mono_l : ∀ k, (∀ y0 y1 y2 y3 y4, LeO (spec_l20Dance.l0 k y0 y1 y2 y3 y4) (spec_l20Dance.l0 (k + 1) y0 y1 y2 y3 y4))
 | 0 => fun _ _ _ _ _ r h => by simp [spec_l20Dance.l0] at h
 | k + 1 => by
  have ih0 := spec_l20Dance.mono_l k
  ·intro y0 y1 y2 y3 y4
   unfold spec_l20Dance.l0
   repeat' first
   | (with_reducible exact ih0 _ _ _ _ _)
   | (with_reducible exact spec_l20Rd_odd.mono _ _ _ _)
   | (with_reducible exact spec_l20Rd_pick.mono _ _ _ _)
   | (with_reducible exact LeO.refl _)
   | (with_reducible exact LeO.none _)
   | (with_reducible refine LeO.ite ?_ ?_)
   | (with_reducible refine LeO.bind ?_ (fun _ => ?_))
theorem spec_l20Dance.mono : ∀ a0 a1 a2 a3 k, LeO (spec_l20Dance.f k a0 a1 a2 a3) (spec_l20Dance.f (k + 1) a0 a1 a2 a3) := by
 intro a0 a1 a2 a3 k
 have ih0 := spec_l20Dance.mono_l k
 unfold spec_l20Dance.f
 repeat' first
   | (with_reducible exact ih0 _ _ _ _ _)
   | (with_reducible exact spec_l20Rd_odd.mono _ _ _ _)
   | (with_reducible exact spec_l20Rd_pick.mono _ _ _ _)
   | (with_reducible exact LeO.refl _)
   | (with_reducible exact LeO.none _)
   | (with_reducible refine LeO.ite ?_ ?_)
   | (with_reducible refine LeO.bind ?_ (fun _ => ?_))
set_option maxHeartbeats 8000000 in
set_option maxRecDepth 100000 in
theorem spec_l20Dance.calls (k : Nat) (g : Nat) (s0_0 : List Int) (s0_1 : Int) (a1 : Int) (a2 : Int) (r1 : ByteArray) (r2 : Int) (w0 w : World) (hI : IsS131 w0 w g s0_0 s0_1) (hB : Below w0.heap.size w0 w) (h : spec_l20Dance.f k s0_0 s0_1 a1 a2 = some (r1, r2)) :
  Calls Tryz.prog 114 #[.pointer (some ⟨g, 0, none⟩), .int .i64 a1, .int .i64 a2] w fun e w' => e = .returned (.string r1) ∧ IsS131 w0 w' g s0_0 r2 ∧ Below w0.heap.size w0 w' ∧ KeepBut w w' g none := by
 have HI0 := Aside0.mk hI
 have HK := Aside0.mk (KeepBut.refl w g none)
 have HL := Aside0.mk hB.size
 clear hI
 have HW0 := Aside0.mk hB.size
 have HB := Aside0.mk hB
 clear hB
 have H : ((spec_l20Rd_pick.f k s0_0 s0_1 (wrap64 (a1 + 1))).bind fun bt277 => (spec_l20Dance.l0 k a2 (⟨#[]⟩ : ByteArray) bt277.1 s0_0 bt277.2)) = some (r1, r2) := h
 clear h
 obtain ⟨⟨t277, t278⟩, A4, H⟩ := sqD H
 try dsimp only at H
 have H' := Aside0.mk H
 clear H
 go_enter Tryz.func114, Tryz.ntmps114
 go_wp2_with (first | ((with_reducible refine gate_callee (f := 82) rfl ?_); refine goesL_ (some 12) rfl rfl Tryz.func82 (by kernel_rfl) rfl #[.pointer (some ⟨g, 0, none⟩), .int .i64 (wrap64 (a1 + 1))] rfl sqA ?_; (with_reducible refine (spec_l20Rd_pick.calls k g s0_0 s0_1 (wrap64 (a1 + 1)) t277 t278 w0 _ ?side1 ?side2 A4.out).mono ?_); (case side1 => exact Z21 HI0); (case side2 => exact Z23 HI0); rintro e w5 ⟨rfl, hi, hb, hk⟩; refine ⟨_, rfl, ?_⟩; replace HK := Aside0.mk (KeepBut.trans Z22 hk (.inl rfl)); replace HB := Aside0.mk (hb); replace HI0 := Aside0.mk (hi); (try clear hb)))
 go_loopg [7, 8] k (fun kq v7 v8 w' => ∃ (x7_1 : ByteArray) (x8_1 : Int) (x1001_1 : Int), v7 = .string x7_1 ∧ v8 = .int .i64 x8_1 ∧ Aside0 (spec_l20Dance.l0 kq a2 x7_1 x8_1 s0_0 x1001_1 = some (r1, r2)) ∧ Aside0 (kq ≤ k) ∧ Aside0 (IsS131 w0 w' g s0_0 x1001_1) ∧ Aside0 (KeepBut w w' g none) ∧ Aside0 (Below w0.heap.size w0 w'))
 case atStart => exact ⟨((⟨#[]⟩ : ByteArray)), (t277), (t278), Z2, Z2, H', ⟨Nat.le_refl _⟩, ⟨Z21 HI0⟩, ⟨Z22⟩, ⟨Z23 HI0⟩⟩
 case round =>
  clear H'
  try clear c1; try clear p2
  obtain ⟨x7_1, x8_1, x1001_1, rfl, rfl, HA, HK1, HI0, HK, HB⟩ := hrel
  cases gk with
  | zero => exact absurd HA.out (by simp [spec_l20Dance.l0])
  | succ k1 =>
   have H := HA.out
   clear HA
   simp only [spec_l20Dance.l0] at H
   by_cases c6 : x8_1 > 0
   ·rw [if_pos c6] at H
    have c6b0 : decide (0 < x8_1) = true := decide_eq_true c6
    clear c6
    obtain ⟨y279, hy279⟩ : ∃ y_ : List ByteArray, y_ = (([(⟨#[84]⟩ : ByteArray), (⟨#[84]⟩ : ByteArray), (⟨#[82]⟩ : ByteArray), (⟨#[116]⟩ : ByteArray), (⟨#[82]⟩ : ByteArray), (⟨#[84]⟩ : ByteArray)] : List ByteArray)) := ⟨_, rfl⟩
    replace H : ((spec_l20Rd_pick.f k1 s0_0 x1001_1 6).bind fun bt282 => (if 0 ≤ bt282.1 then (if bt282.1 < (y279.length : Int) then (if x7_1.size + (rdOf ByteArray.empty y279 bt282.1).size ≤ 9223372036854775807 then (spec_l20Dance.l0 k1 a2 (x7_1 ++ (rdOf ByteArray.empty y279 bt282.1)) (wrap64 (x8_1 - 1)) s0_0 bt282.2) else (none)) else (none)) else (none))) = some (r1, r2) := sqW hy279 H
    have Ny279 := Aside0.mk hy279
    clear hy279
    obtain ⟨⟨t282, t283⟩, A7, H⟩ := sqD H
    try dsimp only at H
    obtain ⟨c8, H⟩ := sqI H
    have c8b0 : decide (0 ≤ t282) = true := decide_eq_true c8
    clear c8
    obtain ⟨c9, H⟩ := sqI H
    have c9b0 : decide (t282 < (y279.length : Int)) = true := decide_eq_true c9
    clear c9
    obtain ⟨c10, H⟩ := sqI H
    have c10b0 := eq_true c10
    have c10b1 : decide (x7_1.size + (rdOf ByteArray.empty y279 t282).size ≤ 9223372036854775807) = true := decide_eq_true c10
    try have c10b2 : (9223372036854775807 < x7_1.size + (rdOf ByteArray.empty y279 t282).size) = False := eq_false (Nat.not_lt.2 c10)
    have H' := Aside0.mk H
    clear H
    go_wp2_with (first | ((with_reducible refine gate_dst (N := 18) rfl ?_); refine Kd.R_lit Kd.string _ 9 ?hg (N := 18) ?hd (xs := ([(⟨#[84]⟩ : ByteArray), (⟨#[84]⟩ : ByteArray), (⟨#[82]⟩ : ByteArray), (⟨#[116]⟩ : ByteArray), (⟨#[82]⟩ : ByteArray), (⟨#[84]⟩ : ByteArray)] : List ByteArray)) (inner := [.string (⟨#[84]⟩ : ByteArray), .string (⟨#[84]⟩ : ByteArray), .string (⟨#[82]⟩ : ByteArray), .string (⟨#[116]⟩ : ByteArray), .string (⟨#[82]⟩ : ByteArray), .string (⟨#[84]⟩ : ByteArray)]) (ok := fun _ => True) (okp := fun _ => True) ?hr ?hp (fun _ hk => hk) trivial (Below.refl _ _) (Nat.le_refl _) (by simp) ?_; (case hd => rfl); (case hg => rfl); (case hr => exact Z8); (case hp => exact (Reps.one (show Kd.M Kd.string _ _ _ (⟨#[84]⟩ : ByteArray) [.string (⟨#[84]⟩ : ByteArray)] from rfl) (Reps.one (show Kd.M Kd.string _ _ _ (⟨#[84]⟩ : ByteArray) [.string (⟨#[84]⟩ : ByteArray)] from rfl) (Reps.one (show Kd.M Kd.string _ _ _ (⟨#[82]⟩ : ByteArray) [.string (⟨#[82]⟩ : ByteArray)] from rfl) (Reps.one (show Kd.M Kd.string _ _ _ (⟨#[116]⟩ : ByteArray) [.string (⟨#[116]⟩ : ByteArray)] from rfl) (Reps.one (show Kd.M Kd.string _ _ _ (⟨#[82]⟩ : ByteArray) [.string (⟨#[82]⟩ : ByteArray)] from rfl) (Reps.one (show Kd.M Kd.string _ _ _ (⟨#[84]⟩ : ByteArray) [.string (⟨#[84]⟩ : ByteArray)] from rfl) (Reps.none _ _)))))))); intro v280 w11 ho12 hb hg_ hnew_; clear hg_ hnew_; (first | rw [← Ny279.out] at ho12 | (simp only [Int.reduceToNat] at ho12; rw [← Ny279.out] at ho12)); have HO281 := Aside0.mk (Kd.R_lower ho12 (keep_size (w := w) (g := g) (row := none) Z22)); replace HK := Aside0.mk (KeepBut.trans Z22 (KeepBut.of_below hb g none) (.inl rfl)); replace HB := Aside0.mk (below_step (Z23 HI0) hb); replace HI0 := Aside0.mk (IsS131.below (Z21 HI0) hb); clear hb ho12) | ((with_reducible refine gate_callee (f := 82) rfl ?_); refine goesL_ (some 20) rfl rfl Tryz.func82 (by kernel_rfl) rfl #[.pointer (some ⟨g, 0, none⟩), .int .i64 6] rfl sqA ?_; (with_reducible refine (spec_l20Rd_pick.calls k1 g s0_0 x1001_1 6 t282 t283 w0 _ ?side1 ?side2 A7.out).mono ?_); (case side1 => exact Z21 HI0); (case side2 => exact Z23 HI0); rintro e w13 ⟨rfl, hi, hb, hk⟩; refine ⟨_, rfl, ?_⟩; replace HO281 := Aside0.mk (Kd.R_mono (Kd.R_keep (IsS131.apart (show IsS131 w0 _ g s0_0 x1001_1 from by repeat (first | (with_reducible first | exact HI0.out | apply IsS131.alloc | apply IsS131.drewN | apply IsS131.drew | apply IsS131.set_1) | exact HI0.out)) (sqR HO281) (by decide)) hk (fun _ h => h.2)) (fun _ h => h.1)); replace HK := Aside0.mk (KeepBut.trans Z22 hk (.inl rfl)); replace HB := Aside0.mk (hb); replace HI0 := Aside0.mk (hi); (try clear hb); obtain ⟨Ao14, co14, eo14⟩ := Kd.R_slice HO281.out; subst eo14; have p284 : 0 ≤ (t282 : Int) := of_decide_eq_true Z7; have q284 : t282 < (y279.length : Int) := of_decide_eq_true Z7; obtain ⟨ad284, e284, hx284_0⟩ := Kd.at_string (Kd.R_reads' HO281.out).2.2 t282 p284 q284; cases e284; replace p284 := eq_true p284; replace q284 := eq_true q284))
    go_roundg k1
    case measure => have := HK1.out; omega
    case rel => exact ⟨(x7_1 ++ (rdOf ByteArray.empty y279 t282)), (wrap64 (x8_1 - 1)), (t283), Z2, Z2, H', ⟨Z16 HK1⟩, ⟨Z21 HI0⟩, ⟨Z22⟩, ⟨Z23 HI0⟩⟩
   ·rw [if_neg c6] at H
    have c6b0 : decide (0 < x8_1) = false := decide_eq_false c6
    clear c6
    obtain ⟨⟨t285, t286⟩, A15, H⟩ := sqD H
    try dsimp only at H
    by_cases c16 : t285 = true
    ·subst c16
     rw [if_pos rfl] at H
     obtain ⟨y287, hy287⟩ : ∃ y_ : List ByteArray, y_ = (([(⟨#[120]⟩ : ByteArray), (⟨#[114]⟩ : ByteArray), (⟨#[84, 84, 84, 84, 84, 84, 84, 84, 84, 84, 84, 84, 84, 84, 84, 84, 84, 84, 84, 84, 84, 84, 84, 84, 84, 84, 84, 84, 84, 84, 84, 84, 84, 84, 84, 84, 84, 84, 84, 84, 84]⟩ : ByteArray)] : List ByteArray)) := ⟨_, rfl⟩
     replace H : ((spec_l20Rd_pick.f k1 s0_0 t286 3).bind fun bt290 => (if 0 ≤ bt290.1 then (if bt290.1 < (y287.length : Int) then (if x7_1.size + (rdOf ByteArray.empty y287 bt290.1).size ≤ 9223372036854775807 then (some (x7_1 ++ (rdOf ByteArray.empty y287 bt290.1), bt290.2)) else (none)) else (none)) else (none))) = some (r1, r2) := sqW hy287 H
     have Ny287 := Aside0.mk hy287
     clear hy287
     obtain ⟨⟨t290, t291⟩, A17, H⟩ := sqD H
     try dsimp only at H
     obtain ⟨c18, H⟩ := sqI H
     have c18b0 : decide (0 ≤ t290) = true := decide_eq_true c18
     clear c18
     obtain ⟨c19, H⟩ := sqI H
     have c19b0 : decide (t290 < (y287.length : Int)) = true := decide_eq_true c19
     clear c19
     obtain ⟨c20, H⟩ := sqI H
     have c20b0 := eq_true c20
     have c20b1 : decide (x7_1.size + (rdOf ByteArray.empty y287 t290).size ≤ 9223372036854775807) = true := decide_eq_true c20
     try have c20b2 : (9223372036854775807 < x7_1.size + (rdOf ByteArray.empty y287 t290).size) = False := eq_false (Nat.not_lt.2 c20)
     simp only [Option.some.injEq, Prod.mk.injEq] at H
     obtain ⟨rfl, rfl⟩ := H
     go_wp2_with (first | ((with_reducible refine gate_callee (f := 74) rfl ?_); refine goesL_ (some 26) rfl rfl Tryz.func74 (by kernel_rfl) rfl #[.pointer (some ⟨g, 0, none⟩), .int .i64 a2] rfl sqA ?_; (with_reducible refine (spec_l20Rd_odd.calls k1 g s0_0 x1001_1 a2 true t286 w0 _ ?side1 ?side2 A15.out).mono ?_); (case side1 => exact Z21 HI0); (case side2 => exact Z23 HI0); rintro e w21 ⟨rfl, hi, hb, hk⟩; refine ⟨_, rfl, ?_⟩; replace HK := Aside0.mk (KeepBut.trans Z22 hk (.inl rfl)); replace HB := Aside0.mk (hb); replace HI0 := Aside0.mk (hi); (try clear hb)) | ((with_reducible refine gate_dst (N := 28) rfl ?_); refine Kd.R_lit Kd.string _ 9 ?hg (N := 28) ?hd (xs := ([(⟨#[120]⟩ : ByteArray), (⟨#[114]⟩ : ByteArray), (⟨#[84, 84, 84, 84, 84, 84, 84, 84, 84, 84, 84, 84, 84, 84, 84, 84, 84, 84, 84, 84, 84, 84, 84, 84, 84, 84, 84, 84, 84, 84, 84, 84, 84, 84, 84, 84, 84, 84, 84, 84, 84]⟩ : ByteArray)] : List ByteArray)) (inner := [.string (⟨#[120]⟩ : ByteArray), .string (⟨#[114]⟩ : ByteArray), .string (⟨#[84, 84, 84, 84, 84, 84, 84, 84, 84, 84, 84, 84, 84, 84, 84, 84, 84, 84, 84, 84, 84, 84, 84, 84, 84, 84, 84, 84, 84, 84, 84, 84, 84, 84, 84, 84, 84, 84, 84, 84, 84]⟩ : ByteArray)]) (ok := fun _ => True) (okp := fun _ => True) ?hr ?hp (fun _ hk => hk) trivial (Below.refl _ _) (Nat.le_refl _) (by simp) ?_; (case hd => rfl); (case hg => rfl); (case hr => exact Z8); (case hp => exact (Reps.one (show Kd.M Kd.string _ _ _ (⟨#[120]⟩ : ByteArray) [.string (⟨#[120]⟩ : ByteArray)] from rfl) (Reps.one (show Kd.M Kd.string _ _ _ (⟨#[114]⟩ : ByteArray) [.string (⟨#[114]⟩ : ByteArray)] from rfl) (Reps.one (show Kd.M Kd.string _ _ _ (⟨#[84, 84, 84, 84, 84, 84, 84, 84, 84, 84, 84, 84, 84, 84, 84, 84, 84, 84, 84, 84, 84, 84, 84, 84, 84, 84, 84, 84, 84, 84, 84, 84, 84, 84, 84, 84, 84, 84, 84, 84, 84]⟩ : ByteArray) [.string (⟨#[84, 84, 84, 84, 84, 84, 84, 84, 84, 84, 84, 84, 84, 84, 84, 84, 84, 84, 84, 84, 84, 84, 84, 84, 84, 84, 84, 84, 84, 84, 84, 84, 84, 84, 84, 84, 84, 84, 84, 84, 84]⟩ : ByteArray)] from rfl) (Reps.none _ _))))); intro v288 w22 ho23 hb hg_ hnew_; clear hg_ hnew_; (first | rw [← Ny287.out] at ho23 | (simp only [Int.reduceToNat] at ho23; rw [← Ny287.out] at ho23)); have HO289 := Aside0.mk (Kd.R_lower ho23 (keep_size (w := w) (g := g) (row := none) Z22)); replace HK := Aside0.mk (KeepBut.trans Z22 (KeepBut.of_below hb g none) (.inl rfl)); replace HB := Aside0.mk (below_step (Z23 HI0) hb); replace HI0 := Aside0.mk (IsS131.below (Z21 HI0) hb); clear hb ho23) | ((with_reducible refine gate_callee (f := 82) rfl ?_); refine goesL_ (some 30) rfl rfl Tryz.func82 (by kernel_rfl) rfl #[.pointer (some ⟨g, 0, none⟩), .int .i64 3] rfl sqA ?_; (with_reducible refine (spec_l20Rd_pick.calls k1 g s0_0 t286 3 t290 t291 w0 _ ?side1 ?side2 A17.out).mono ?_); (case side1 => exact Z21 HI0); (case side2 => exact Z23 HI0); rintro e w24 ⟨rfl, hi, hb, hk⟩; refine ⟨_, rfl, ?_⟩; replace HO289 := Aside0.mk (Kd.R_mono (Kd.R_keep (IsS131.apart (show IsS131 w0 _ g s0_0 t286 from by repeat (first | (with_reducible first | exact HI0.out | apply IsS131.alloc | apply IsS131.drewN | apply IsS131.drew | apply IsS131.set_1) | exact HI0.out)) (sqR HO289) (by decide)) hk (fun _ h => h.2)) (fun _ h => h.1)); replace HK := Aside0.mk (KeepBut.trans Z22 hk (.inl rfl)); replace HB := Aside0.mk (hb); replace HI0 := Aside0.mk (hi); (try clear hb); obtain ⟨Ao25, co25, eo25⟩ := Kd.R_slice HO289.out; subst eo25; have p292 : 0 ≤ (t290 : Int) := of_decide_eq_true Z7; have q292 : t290 < (y287.length : Int) := of_decide_eq_true Z7; obtain ⟨ad292, e292, hx292_0⟩ := Kd.at_string (Kd.R_reads' HO289.out).2.2 t290 p292 q292; cases e292; replace p292 := eq_true p292; replace q292 := eq_true q292))
     go_ret
     exact ⟨Z15, Z21 HI0, Z23 HI0, Z22⟩
    ·replace c16 := Bool.eq_false_iff.mpr c16
     subst c16
     rw [if_neg sqF] at H
     simp only [Option.some.injEq, Prod.mk.injEq] at H
     obtain ⟨rfl, rfl⟩ := H
     go_wp2_with (first | ((with_reducible refine gate_callee (f := 74) rfl ?_); refine goesL_ (some 26) rfl rfl Tryz.func74 (by kernel_rfl) rfl #[.pointer (some ⟨g, 0, none⟩), .int .i64 a2] rfl sqA ?_; (with_reducible refine (spec_l20Rd_odd.calls k1 g s0_0 x1001_1 a2 false t286 w0 _ ?side1 ?side2 A15.out).mono ?_); (case side1 => exact Z21 HI0); (case side2 => exact Z23 HI0); rintro e w26 ⟨rfl, hi, hb, hk⟩; refine ⟨_, rfl, ?_⟩; replace HK := Aside0.mk (KeepBut.trans Z22 hk (.inl rfl)); replace HB := Aside0.mk (hb); replace HI0 := Aside0.mk (hi); (try clear hb)))
     go_ret
     exact ⟨Z15, Z21 HI0, Z23 HI0, Z22⟩

/-! ### spec_l20Fraction: function 113 -/
def spec_l20Fraction.j0 : Nat → Int → List Int → Int → Int → Int → Option (Int × Int × Int)
 | 0, _, _, _, _, _ => none
 | k + 1, x1, x1000, x1001, x310000, x310001 => (spec_l20Rd_odd.f k x1000 x1001 x1).bind fun bt310 => (if bt310.1 = true then ((some (([(⟨0, 0⟩ : S31), (⟨2, 4⟩ : S31), (⟨1, (-2)⟩ : S31), (⟨(-1), 0⟩ : S31), (⟨1000001, 1⟩ : S31)] : List (S31)) : List (S31))).bind fun y312 => ((spec_l20Rd_pick.f k x1000 bt310.2 5).bind fun bt315 => (if 0 ≤ bt315.1 then (if bt315.1 < (y312.length : Int) then (some ((rd_T31 y312 bt315.1).f0, (rd_T31 y312 bt315.1).f1, bt315.2)) else (none)) else (none)))) else (some (x310000, x310001, bt310.2)))
def spec_l20Fraction.f (k : Nat) (s0_0 : List Int) (s0_1 : Int) (a1 : Int) : Option (Int × Int × Int) := (some (([4, 10, 50, 1000] : List Int) : List Int)).bind fun y294 => ((spec_l20Rd_pick.f k s0_0 s0_1 4).bind fun bt297 => (if 0 ≤ bt297.1 then (if bt297.1 < (y294.length : Int) then ((spec_l20Rd_pick.f k s0_0 bt297.2 (rd y294 bt297.1)).bind fun bt300 => ((spec_l20Rd_pick.f k s0_0 bt300.2 (rd y294 bt297.1)).bind fun bt302 => ((spec_l20Rd_pick.f k s0_0 bt302.2 (rd y294 bt297.1)).bind fun bt304 => ((spec_LowestOf.f k (wrap64 (bt300.1 - bt302.1)) bt304.1).bind fun bt306 => (if bt306.2.2 = true then (spec_l20Fraction.j0 k a1 s0_0 bt304.2 bt306.1 bt306.2.1) else (spec_l20Fraction.j0 k a1 s0_0 bt304.2 1 0)))))) else (none)) else (none)))
theorem spec_l20Fraction.mono_l : ∀ k, (∀ y0 y1 y2 y3 y4, LeO (spec_l20Fraction.j0 k y0 y1 y2 y3 y4) (spec_l20Fraction.j0 (k + 1) y0 y1 y2 y3 y4))
 | 0 => fun _ _ _ _ _ r h => by simp [spec_l20Fraction.j0] at h
 | k + 1 => by
  have ih0 := spec_l20Fraction.mono_l k
  ·intro y0 y1 y2 y3 y4
   unfold spec_l20Fraction.j0
   repeat' first
   | (with_reducible exact ih0 _ _ _ _ _)
   | (with_reducible exact spec_LowestOf.mono _ _ _)
   | (with_reducible exact spec_l20Rd_odd.mono _ _ _ _)
   | (with_reducible exact spec_l20Rd_pick.mono _ _ _ _)
   | (with_reducible exact LeO.refl _)
   | (with_reducible exact LeO.none _)
   | (with_reducible refine LeO.ite ?_ ?_)
   | (with_reducible refine LeO.bind ?_ (fun _ => ?_))
theorem spec_l20Fraction.mono : ∀ a0 a1 a2 k, LeO (spec_l20Fraction.f k a0 a1 a2) (spec_l20Fraction.f (k + 1) a0 a1 a2) := by
 intro a0 a1 a2 k
 have ih0 := spec_l20Fraction.mono_l k
 unfold spec_l20Fraction.f
 repeat' first
   | (with_reducible exact ih0 _ _ _ _ _)
   | (with_reducible exact spec_LowestOf.mono _ _ _)
   | (with_reducible exact spec_l20Rd_odd.mono _ _ _ _)
   | (with_reducible exact spec_l20Rd_pick.mono _ _ _ _)
   | (with_reducible exact LeO.refl _)
   | (with_reducible exact LeO.none _)
   | (with_reducible refine LeO.ite ?_ ?_)
   | (with_reducible refine LeO.bind ?_ (fun _ => ?_))
set_option maxHeartbeats 8000000 in
set_option maxRecDepth 100000 in
theorem spec_l20Fraction.calls (k : Nat) (g : Nat) (s0_0 : List Int) (s0_1 : Int) (a1 : Int) (r1 : Int) (r2 : Int) (r3 : Int) (w0 w : World) (hI : IsS131 w0 w g s0_0 s0_1) (hB : Below w0.heap.size w0 w) (h : spec_l20Fraction.f k s0_0 s0_1 a1 = some (r1, r2, r3)) :
  Calls Tryz.prog 113 #[.pointer (some ⟨g, 0, none⟩), .int .i64 a1] w fun e w' => e = .returned (.agg #[.int .i64 r1, .int .i64 r2]) ∧ IsS131 w0 w' g s0_0 r3 ∧ Below w0.heap.size w0 w' ∧ KeepBut w w' g none := by
 have hu31 := Tryz.underlying31
 have HI0 := Aside0.mk hI
 have HK := Aside0.mk (KeepBut.refl w g none)
 have HL := Aside0.mk hB.size
 clear hI
 have HW0 := Aside0.mk hB.size
 have HB := Aside0.mk hB
 clear hB
 have H : ((some (([4, 10, 50, 1000] : List Int) : List Int)).bind fun y294 => ((spec_l20Rd_pick.f k s0_0 s0_1 4).bind fun bt297 => (if 0 ≤ bt297.1 then (if bt297.1 < (y294.length : Int) then ((spec_l20Rd_pick.f k s0_0 bt297.2 (rd y294 bt297.1)).bind fun bt300 => ((spec_l20Rd_pick.f k s0_0 bt300.2 (rd y294 bt297.1)).bind fun bt302 => ((spec_l20Rd_pick.f k s0_0 bt302.2 (rd y294 bt297.1)).bind fun bt304 => ((spec_LowestOf.f k (wrap64 (bt300.1 - bt302.1)) bt304.1).bind fun bt306 => (if bt306.2.2 = true then (spec_l20Fraction.j0 k a1 s0_0 bt304.2 bt306.1 bt306.2.1) else (spec_l20Fraction.j0 k a1 s0_0 bt304.2 1 0)))))) else (none)) else (none)))) = some (r1, r2, r3) := h
 clear h
 obtain ⟨y294, hy294⟩ : ∃ y_ : List Int, y_ = (([4, 10, 50, 1000] : List Int)) := ⟨_, rfl⟩
 replace H : ((spec_l20Rd_pick.f k s0_0 s0_1 4).bind fun bt297 => (if 0 ≤ bt297.1 then (if bt297.1 < (y294.length : Int) then ((spec_l20Rd_pick.f k s0_0 bt297.2 (rd y294 bt297.1)).bind fun bt300 => ((spec_l20Rd_pick.f k s0_0 bt300.2 (rd y294 bt297.1)).bind fun bt302 => ((spec_l20Rd_pick.f k s0_0 bt302.2 (rd y294 bt297.1)).bind fun bt304 => ((spec_LowestOf.f k (wrap64 (bt300.1 - bt302.1)) bt304.1).bind fun bt306 => (if bt306.2.2 = true then (spec_l20Fraction.j0 k a1 s0_0 bt304.2 bt306.1 bt306.2.1) else (spec_l20Fraction.j0 k a1 s0_0 bt304.2 1 0)))))) else (none)) else (none))) = some (r1, r2, r3) := sqW hy294 H
 have Ny294 := Aside0.mk hy294
 clear hy294
 obtain ⟨⟨t297, t298⟩, A3, H⟩ := sqD H
 try dsimp only at H
 obtain ⟨c4, H⟩ := sqI H
 have c4b0 : decide (0 ≤ t297) = true := decide_eq_true c4
 clear c4
 obtain ⟨c5, H⟩ := sqI H
 have c5b0 : decide (t297 < (y294.length : Int)) = true := decide_eq_true c5
 clear c5
 obtain ⟨⟨t300, t301⟩, A6, H⟩ := sqD H
 try dsimp only at H
 obtain ⟨⟨t302, t303⟩, A7, H⟩ := sqD H
 try dsimp only at H
 obtain ⟨⟨t304, t305⟩, A8, H⟩ := sqD H
 try dsimp only at H
 obtain ⟨⟨t306, t307, t308⟩, A9, H⟩ := sqD H
 try dsimp only at H
 have HC10 := Aside0.mk H
 clear H
 go_enter Tryz.func113, Tryz.ntmps113
 go_upto_if 28 with (first | ((with_reducible refine gate_dst (N := 4) rfl ?_); refine sqBox (N := 4) (cs := #[.int .i64 0, .int .i64 0]) (t := 31) ?_; intro gb293 hg w11 BK293 hb; replace HB := Aside0.mk (below_step (Z23 HI0) hb); have GW293 := Aside0.mk ((Z119 : w.heap.size ≤ gb293)); have GE293 := Aside0.mk ((Nat.le_trans HW0.out (Z119 : w.heap.size ≤ gb293) : w0.heap.size ≤ gb293)); replace HK := Aside0.mk (KeepBut.trans Z22 (KeepBut.of_below hb g none) (.inl rfl)); have NB0_293 := Aside0.mk ((Z58 HI0 : g ≠ gb293)); have NB293_0 := Aside0.mk ((Z59 HI0 : gb293 ≠ g)); replace HI0 := Aside0.mk (IsS131.below (Z21 HI0) hb); clear hb hg) | ((with_reducible refine gate_dst (N := 8) rfl ?_); refine Kd.R_lit (Kd.int .i64) _ 3 ?hg (N := 8) ?hd (xs := ([4, 10, 50, 1000] : List Int)) (inner := [.int .i64 4, .int .i64 10, .int .i64 50, .int .i64 1000]) (ok := fun _ => True) (okp := fun _ => True) ?hr ?hp (fun _ hk => hk) trivial (Below.refl _ _) (Nat.le_refl _) (by simp) ?_; (case hd => rfl); (case hg => rfl); (case hr => exact Z8); (case hp => exact (Reps.one (show Kd.M (Kd.int .i64) _ _ _ 4 [.int .i64 4] from rfl) (Reps.one (show Kd.M (Kd.int .i64) _ _ _ 10 [.int .i64 10] from rfl) (Reps.one (show Kd.M (Kd.int .i64) _ _ _ 50 [.int .i64 50] from rfl) (Reps.one (show Kd.M (Kd.int .i64) _ _ _ 1000 [.int .i64 1000] from rfl) (Reps.none _ _)))))); intro v295 w12 ho13 hb hg_ hnew_; clear hg_ hnew_; (first | rw [← Ny294.out] at ho13 | (simp only [Int.reduceToNat] at ho13; rw [← Ny294.out] at ho13)); have HO296 := Aside0.mk (Kd.R_lower ho13 (keep_size (w := w) (g := g) (row := none) (Z60 GW293))); replace BK293 := sqT BK293 hb; replace HK := Aside0.mk (KeepBut.trans (Z60 GW293) (KeepBut.of_below hb g none) (.inl rfl)); replace HB := Aside0.mk (below_step (Z27 HI0 GE293) hb); replace HI0 := Aside0.mk (IsS131.below (Z26 HI0 NB0_293) hb); clear hb ho13) | ((with_reducible refine gate_callee (f := 82) rfl ?_); refine goesL_ (some 10) rfl rfl Tryz.func82 (by kernel_rfl) rfl #[.pointer (some ⟨g, 0, none⟩), .int .i64 4] rfl sqA ?_; (with_reducible refine (spec_l20Rd_pick.calls k g s0_0 s0_1 4 t297 t298 w0 _ ?side1 ?side2 A3.out).mono ?_); (case side1 => exact Z26 HI0 NB0_293); (case side2 => exact Z27 HI0 GE293); rintro e w14 ⟨rfl, hi, hb, hk⟩; refine ⟨_, rfl, ?_⟩; replace BK293 := Aside0.mk (KeepBut.blk hk (g' := gb293) (o := .cells #[.int .i64 0, .int .i64 0] 31 (0, 0)) (sqK BK293) NB293_0.out (by simp)); replace HO296 := Aside0.mk (Kd.R_mono (Kd.R_keep (IsS131.apart (show IsS131 w0 _ g s0_0 s0_1 from by repeat (first | (with_reducible first | exact HI0.out | apply IsS131.alloc | apply IsS131.drewN | apply IsS131.drew | apply IsS131.set_1 | refine IsS131.far ?_ NB0_293.out _) | exact HI0.out)) (sqR HO296) (by decide)) hk (fun _ h => h.2)) (fun _ h => h.1)); replace HK := Aside0.mk (KeepBut.trans (Z60 GW293) hk (.inl rfl)); replace HB := Aside0.mk (hb); replace HI0 := Aside0.mk (hi); (try clear hb); obtain ⟨Ao15, co15, eo15⟩ := Kd.R_slice HO296.out; subst eo15; have p299 : 0 ≤ (t297 : Int) := of_decide_eq_true Z7; have q299 : t297 < (y294.length : Int) := of_decide_eq_true Z7; obtain ⟨ad299, e299, hx299_0⟩ := Kd.at_int (Kd.R_reads' HO296.out).2.2 t297 p299 q299; cases e299; replace p299 := eq_true p299; replace q299 := eq_true q299) | ((with_reducible refine gate_callee (f := 82) rfl ?_); refine goesL_ (some 16) rfl rfl Tryz.func82 (by kernel_rfl) rfl #[.pointer (some ⟨g, 0, none⟩), .int .i64 (rd y294 t297)] rfl sqA ?_; (with_reducible refine (spec_l20Rd_pick.calls k g s0_0 t298 (rd y294 t297) t300 t301 w0 _ ?side1 ?side2 A6.out).mono ?_); (case side1 => exact Z26 HI0 NB0_293); (case side2 => exact Z27 HI0 GE293); rintro e w16 ⟨rfl, hi, hb, hk⟩; refine ⟨_, rfl, ?_⟩; replace BK293 := Aside0.mk (KeepBut.blk hk (g' := gb293) (o := .cells #[.int .i64 0, .int .i64 0] 31 (0, 0)) (sqK BK293) NB293_0.out (by simp)); replace HO296 := Aside0.mk (Kd.R_mono (Kd.R_keep (IsS131.apart (show IsS131 w0 _ g s0_0 t298 from by repeat (first | (with_reducible first | exact HI0.out | apply IsS131.alloc | apply IsS131.drewN | apply IsS131.drew | apply IsS131.set_1 | refine IsS131.far ?_ NB0_293.out _) | exact HI0.out)) (sqR HO296) (by decide)) hk (fun _ h => h.2)) (fun _ h => h.1)); replace HK := Aside0.mk (KeepBut.trans (Z60 GW293) hk (.inl rfl)); replace HB := Aside0.mk (hb); replace HI0 := Aside0.mk (hi); (try clear hb)) | ((with_reducible refine gate_callee (f := 82) rfl ?_); refine goesL_ (some 19) rfl rfl Tryz.func82 (by kernel_rfl) rfl #[.pointer (some ⟨g, 0, none⟩), .int .i64 (rd y294 t297)] rfl sqA ?_; (with_reducible refine (spec_l20Rd_pick.calls k g s0_0 t301 (rd y294 t297) t302 t303 w0 _ ?side1 ?side2 A7.out).mono ?_); (case side1 => exact Z26 HI0 NB0_293); (case side2 => exact Z27 HI0 GE293); rintro e w17 ⟨rfl, hi, hb, hk⟩; refine ⟨_, rfl, ?_⟩; replace BK293 := Aside0.mk (KeepBut.blk hk (g' := gb293) (o := .cells #[.int .i64 0, .int .i64 0] 31 (0, 0)) (sqK BK293) NB293_0.out (by simp)); replace HO296 := Aside0.mk (Kd.R_mono (Kd.R_keep (IsS131.apart (show IsS131 w0 _ g s0_0 t301 from by repeat (first | (with_reducible first | exact HI0.out | apply IsS131.alloc | apply IsS131.drewN | apply IsS131.drew | apply IsS131.set_1 | refine IsS131.far ?_ NB0_293.out _) | exact HI0.out)) (sqR HO296) (by decide)) hk (fun _ h => h.2)) (fun _ h => h.1)); replace HK := Aside0.mk (KeepBut.trans (Z60 GW293) hk (.inl rfl)); replace HB := Aside0.mk (hb); replace HI0 := Aside0.mk (hi); (try clear hb)) | ((with_reducible refine gate_callee (f := 82) rfl ?_); refine goesL_ (some 23) rfl rfl Tryz.func82 (by kernel_rfl) rfl #[.pointer (some ⟨g, 0, none⟩), .int .i64 (rd y294 t297)] rfl sqA ?_; (with_reducible refine (spec_l20Rd_pick.calls k g s0_0 t303 (rd y294 t297) t304 t305 w0 _ ?side1 ?side2 A8.out).mono ?_); (case side1 => exact Z26 HI0 NB0_293); (case side2 => exact Z27 HI0 GE293); rintro e w18 ⟨rfl, hi, hb, hk⟩; refine ⟨_, rfl, ?_⟩; replace BK293 := Aside0.mk (KeepBut.blk hk (g' := gb293) (o := .cells #[.int .i64 0, .int .i64 0] 31 (0, 0)) (sqK BK293) NB293_0.out (by simp)); replace HO296 := Aside0.mk (Kd.R_mono (Kd.R_keep (IsS131.apart (show IsS131 w0 _ g s0_0 t303 from by repeat (first | (with_reducible first | exact HI0.out | apply IsS131.alloc | apply IsS131.drewN | apply IsS131.drew | apply IsS131.set_1 | refine IsS131.far ?_ NB0_293.out _) | exact HI0.out)) (sqR HO296) (by decide)) hk (fun _ h => h.2)) (fun _ h => h.1)); replace HK := Aside0.mk (KeepBut.trans (Z60 GW293) hk (.inl rfl)); replace HB := Aside0.mk (hb); replace HI0 := Aside0.mk (hi); (try clear hb)) | ((with_reducible refine gate_callee (f := 136) rfl ?_); refine goesL_ (some 24) rfl rfl Tryz.func136 (by kernel_rfl) rfl #[.int .i64 (wrap64 (t300 - t302)), .int .i64 t304] rfl sqA ?_; (with_reducible refine (spec_LowestOf.calls k (wrap64 (t300 - t302)) t304 t306 t307 t308 _ A9.out).mono ?_); rintro e w19 ⟨rfl, hb⟩; refine ⟨_, rfl, ?_⟩; replace HO296 := sqU HO296 hb; replace BK293 := sqT BK293 hb; replace HK := Aside0.mk (KeepBut.trans (Z60 GW293) (KeepBut.of_below hb g none) (.inl rfl)); replace HB := Aside0.mk (below_step (Z27 HI0 GE293) hb); replace HI0 := Aside0.mk (IsS131.below (Z26 HI0 NB0_293) hb); (try clear hb)) | ((with_reducible refine gate_dst (N := 6) rfl ?_); refine sqBox (N := 6) (cs := #[.int .i64 0, .int .i64 0]) (t := 31) ?_; intro gb309 hg w20 BK309 hb; replace HO296 := sqU HO296 hb; replace HB := Aside0.mk (below_step (Z27 HI0 GE293) hb); have GW309 := Aside0.mk ((Z120 GW293 : w.heap.size ≤ gb309)); have GE309 := Aside0.mk ((Nat.le_trans HW0.out (Z120 GW293 : w.heap.size ≤ gb309) : w0.heap.size ≤ gb309)); replace HK := Aside0.mk (KeepBut.trans (Z60 GW293) (KeepBut.of_below hb g none) (.inl rfl)); obtain ⟨NB293_309, NB309_293⟩ := sqM hg BK293; replace BK293 := sqT BK293 hb; have NB0_309 := Aside0.mk ((by rw [hg]; exact Nat.ne_of_lt (IsS131.lt (show IsS131 w0 _ g s0_0 t305 from by repeat (first | (with_reducible first | exact HI0.out | apply IsS131.alloc | apply IsS131.drewN | apply IsS131.drew | apply IsS131.set_1 | refine IsS131.far ?_ NB0_293.out _) | exact HI0.out))) : g ≠ gb309)); have NB309_0 := Aside0.mk ((by rw [hg]; exact Nat.ne_of_gt (IsS131.lt (show IsS131 w0 _ g s0_0 t305 from by repeat (first | (with_reducible first | exact HI0.out | apply IsS131.alloc | apply IsS131.drewN | apply IsS131.drew | apply IsS131.set_1 | refine IsS131.far ?_ NB0_293.out _) | exact HI0.out))) : gb309 ≠ g)); replace HI0 := Aside0.mk (IsS131.below (Z26 HI0 NB0_293) hb); clear hb hg; have hnb21 := NB309_293.out; have hnc21 := NB293_309.out; have hnb22 := NB309_0.out; have hnc22 := NB0_309.out; obtain ⟨hcz23_0, hcz23_1, hfz23_0, hfz23_1⟩ := sqY2 BK309))
 (try simp only [Act.put, List.setIfInBounds_toArray, List.set_cons_zero, List.set_cons_succ])
 go_cut [] (fun wc => ∃ (kq : Nat) (x310000_9 : Int) (x310001_9 : Int), Aside0 (spec_l20Fraction.j0 kq a1 s0_0 t305 x310000_9 x310001_9 = some (r1, r2, r3)) ∧ Aside0 (kq ≤ k) ∧ Aside0 (wc.heap[gb293]? = some (.cells #[.int .i64 0, .int .i64 0] 31 (0, 0))) ∧ Aside0 (wc.heap[gb309]? = some (.cells #[.int .i64 x310000_9, .int .i64 x310001_9] 31 (0, 0))) ∧ Aside0 (IsS131 w0 wc g s0_0 t305) ∧ Aside0 (KeepBut w wc g none) ∧ Aside0 (Below w0.heap.size w0 wc))
 case first =>
  have H := HC10.out
  clear HC10
  by_cases c24 : t308 = true
  ·subst c24
   rw [if_pos rfl] at H
   have H' := Aside0.mk H
   clear H
   go_wp2
   go_meet
   case rel => exact ⟨_, (t306), (t307), H', ⟨Z3⟩, ⟨Z9 NB293_309 BK293⟩, ⟨by refine sqPut (cs := #[.int .i64 t306, .int .i64 0]) ?_ 1; refine sqPut (cs := #[.int .i64 0, .int .i64 0]) ?_ 0; exact sqK BK309⟩, ⟨Z30 HI0 NB0_293 NB0_309⟩, ⟨Z61 GW293 GW309⟩, ⟨Z31 HI0 GE293 GE309⟩⟩
  ·replace c24 := Bool.eq_false_iff.mpr c24
   subst c24
   rw [if_neg sqF] at H
   have H' := Aside0.mk H
   clear H
   have hnb25 := NB309_293.out
   have hnc25 := NB293_309.out
   have hnb26 := NB309_0.out
   have hnc26 := NB0_309.out
   obtain ⟨hcz27_0, hcz27_1, hfz27_0, hfz27_1⟩ := sqY2 BK309
   go_wp2
   go_meet
   case rel => exact ⟨_, (1), (0), H', ⟨Z3⟩, ⟨by refine sqFar ?_ NB293_309; refine sqFar ?_ NB293_309; refine sqFar ?_ NB293_309; refine sqFar ?_ NB293_309; exact sqK BK293⟩, ⟨by refine sqPut (cs := #[.int .i64 1, .int .i64 t307]) ?_ 1; refine sqPut (cs := #[.int .i64 t306, .int .i64 t307]) ?_ 0; refine sqPut (cs := #[.int .i64 t306, .int .i64 0]) ?_ 1; refine sqPut (cs := #[.int .i64 0, .int .i64 0]) ?_ 0; exact sqK BK309⟩, ⟨Z30 HI0 NB0_293 NB0_309⟩, ⟨Z61 GW293 GW309⟩, ⟨Z31 HI0 GE293 GE309⟩⟩
 case rest =>
  clear HC10
  try clear c1; try clear c2; try clear p2; try clear q2; try clear hx2; try clear c4; try clear c4b0; try clear c5; try clear c5b0; try clear p6; try clear c8; try clear c11; try clear c13; try clear c21; try clear c22; try clear c24; try clear c25; try clear c26; try clear hcz23_0; try clear hcz23_1; try clear hcz27_0; try clear hcz27_1; try clear hfz23_0; try clear hfz23_1; try clear hfz27_0; try clear hfz27_1; try clear hx299_0; try clear p299; try clear q299
  obtain ⟨kq, x310000_9, x310001_9, HA, HJ9, BK293, BK309, HI0, HK, HB⟩ := hcut
  cases kq with
  | zero => exact absurd HA.out (by simp [spec_l20Fraction.j0])
  | succ kj9 =>
   have H := HA.out
   clear HA
   simp only [spec_l20Fraction.j0] at H
   obtain ⟨⟨t310, t311⟩, A28, H⟩ := sqD H
   try dsimp only at H
   by_cases c29 : t310 = true
   ·subst c29
    rw [if_pos rfl] at H
    obtain ⟨y312, hy312⟩ : ∃ y_ : List (S31), y_ = (([(⟨0, 0⟩ : S31), (⟨2, 4⟩ : S31), (⟨1, (-2)⟩ : S31), (⟨(-1), 0⟩ : S31), (⟨1000001, 1⟩ : S31)] : List (S31))) := ⟨_, rfl⟩
    replace H : ((spec_l20Rd_pick.f kj9 s0_0 t311 5).bind fun bt315 => (if 0 ≤ bt315.1 then (if bt315.1 < (y312.length : Int) then (some ((rd_T31 y312 bt315.1).f0, (rd_T31 y312 bt315.1).f1, bt315.2)) else (none)) else (none))) = some (r1, r2, r3) := sqW hy312 H
    have Ny312 := Aside0.mk hy312
    clear hy312
    obtain ⟨⟨t315, t316⟩, A30, H⟩ := sqD H
    try dsimp only at H
    obtain ⟨c31, H⟩ := sqI H
    have c31b0 : decide (0 ≤ t315) = true := decide_eq_true c31
    clear c31
    obtain ⟨c32, H⟩ := sqI H
    have c32b0 : decide (t315 < (y312.length : Int)) = true := decide_eq_true c32
    clear c32
    simp only [Option.some.injEq, Prod.mk.injEq] at H
    obtain ⟨rfl, rfl, rfl⟩ := H
    go_wp2_with (first | ((with_reducible refine gate_callee (f := 74) rfl ?_); refine goesL_ (some 32) rfl rfl Tryz.func74 (by kernel_rfl) rfl #[.pointer (some ⟨g, 0, none⟩), .int .i64 a1] rfl sqA ?_; (with_reducible refine (spec_l20Rd_odd.calls kj9 g s0_0 t305 a1 true t311 w0 _ ?side1 ?side2 A28.out).mono ?_); (case side1 => exact Z30 HI0 NB0_293 NB0_309); (case side2 => exact Z31 HI0 GE293 GE309); rintro e w33 ⟨rfl, hi, hb, hk⟩; refine ⟨_, rfl, ?_⟩; replace BK293 := Aside0.mk (KeepBut.blk hk (g' := gb293) (o := .cells #[.int .i64 0, .int .i64 0] 31 (0, 0)) (sqK BK293) NB293_0.out (by simp)); replace BK309 := Aside0.mk (KeepBut.blk hk (g' := gb309) (o := .cells #[.int .i64 x310000_9, .int .i64 x310001_9] 31 (0, 0)) (sqK BK309) NB309_0.out (by simp)); replace HK := Aside0.mk (KeepBut.trans (Z61 GW293 GW309) hk (.inl rfl)); replace HB := Aside0.mk (hb); replace HI0 := Aside0.mk (hi); (try clear hb)) | ((with_reducible refine gate_dst (N := 38) rfl ?_); refine Kd.R_lit k31 _ 31 ?hg (N := 38) ?hd (xs := ([(⟨0, 0⟩ : S31), (⟨2, 4⟩ : S31), (⟨1, (-2)⟩ : S31), (⟨(-1), 0⟩ : S31), (⟨1000001, 1⟩ : S31)] : List (S31))) (inner := [.int .i64 0, .int .i64 0, .int .i64 2, .int .i64 4, .int .i64 1, .int .i64 (-2), .int .i64 (-1), .int .i64 0, .int .i64 1000001, .int .i64 1]) (ok := fun _ => True) (okp := fun _ => True) ?hr ?hp (fun _ hk => hk) trivial (Below.refl _ _) (Nat.le_refl _) (by simp) ?_; (case hd => rfl); (case hg => rfl); (case hr => exact Z8); (case hp => exact (Reps.c2 (show Kd.M k31 _ _ _ (⟨0, 0⟩ : S31) [.int .i64 0, .int .i64 0] from (k31_mkM _ _ _ (⟨0, 0⟩ : S31) )) (Reps.c2 (show Kd.M k31 _ _ _ (⟨2, 4⟩ : S31) [.int .i64 2, .int .i64 4] from (k31_mkM _ _ _ (⟨2, 4⟩ : S31) )) (Reps.c2 (show Kd.M k31 _ _ _ (⟨1, (-2)⟩ : S31) [.int .i64 1, .int .i64 (-2)] from (k31_mkM _ _ _ (⟨1, (-2)⟩ : S31) )) (Reps.c2 (show Kd.M k31 _ _ _ (⟨(-1), 0⟩ : S31) [.int .i64 (-1), .int .i64 0] from (k31_mkM _ _ _ (⟨(-1), 0⟩ : S31) )) (Reps.c2 (show Kd.M k31 _ _ _ (⟨1000001, 1⟩ : S31) [.int .i64 1000001, .int .i64 1] from (k31_mkM _ _ _ (⟨1000001, 1⟩ : S31) )) (Reps.none _ _))))))); intro v313 w34 ho35 hb hg_ hnew_; clear hg_ hnew_; (first | rw [← Ny312.out] at ho35 | (simp only [Int.reduceToNat] at ho35; rw [← Ny312.out] at ho35)); have HO314 := Aside0.mk (Kd.R_lower (Kd.R_newB (Kd.R_newB ho35 (sqK BK293)) (sqK BK309)) (keep_size (w := w) (g := g) (row := none) (Z61 GW293 GW309))); replace BK293 := sqT BK293 hb; replace BK309 := sqT BK309 hb; replace HK := Aside0.mk (KeepBut.trans (Z61 GW293 GW309) (KeepBut.of_below hb g none) (.inl rfl)); replace HB := Aside0.mk (below_step (Z31 HI0 GE293 GE309) hb); replace HI0 := Aside0.mk (IsS131.below (Z30 HI0 NB0_293 NB0_309) hb); clear hb ho35) | ((with_reducible refine gate_callee (f := 82) rfl ?_); refine goesL_ (some 40) rfl rfl Tryz.func82 (by kernel_rfl) rfl #[.pointer (some ⟨g, 0, none⟩), .int .i64 5] rfl sqA ?_; (with_reducible refine (spec_l20Rd_pick.calls kj9 g s0_0 t311 5 t315 t316 w0 _ ?side1 ?side2 A30.out).mono ?_); (case side1 => exact Z30 HI0 NB0_293 NB0_309); (case side2 => exact Z31 HI0 GE293 GE309); rintro e w36 ⟨rfl, hi, hb, hk⟩; refine ⟨_, rfl, ?_⟩; replace BK293 := Aside0.mk (KeepBut.blk hk (g' := gb293) (o := .cells #[.int .i64 0, .int .i64 0] 31 (0, 0)) (sqK BK293) NB293_0.out (by simp)); replace BK309 := Aside0.mk (KeepBut.blk hk (g' := gb309) (o := .cells #[.int .i64 x310000_9, .int .i64 x310001_9] 31 (0, 0)) (sqK BK309) NB309_0.out (by simp)); replace HO314 := Aside0.mk (Kd.R_mono (Kd.R_keep (IsS131.apart (show IsS131 w0 _ g s0_0 t311 from by repeat (first | (with_reducible first | exact HI0.out | apply IsS131.alloc | apply IsS131.drewN | apply IsS131.drew | apply IsS131.set_1 | refine IsS131.far ?_ NB0_293.out _ | refine IsS131.far ?_ NB0_309.out _) | exact HI0.out)) (sqR HO314) (by decide)) hk (fun _ h => h.2)) (fun _ h => h.1)); replace HK := Aside0.mk (KeepBut.trans (Z61 GW293 GW309) hk (.inl rfl)); replace HB := Aside0.mk (hb); replace HI0 := Aside0.mk (hi); (try clear hb); obtain ⟨Ao37, co37, eo37⟩ := Kd.R_slice HO314.out; subst eo37; have p317 : 0 ≤ (t315 : Int) := of_decide_eq_true Z7; have q317 : t315 < (y312.length : Int) := of_decide_eq_true Z7; obtain ⟨ad317, e317, hx317_0, hx317_1⟩ := at_T31 (Kd.R_reads' HO314.out).2.2 t315 p317 q317; cases e317; replace p317 := eq_true p317; replace q317 := eq_true q317; have hnb38 := NB293_309.out; have hnc38 := NB309_293.out; have hnb39 := NB293_0.out; have hnc39 := NB0_293.out; obtain ⟨hcz40_0, hcz40_1, hfz40_0, hfz40_1⟩ := sqY2 BK293))
    refine bodyPost_ret (results_cell_row rfl _ _ gb293 31 #[.int .i64 ((rd_T31 y312 t315).f0), .int .i64 ((rd_T31 y312 t315).f1)] (0, 0) _ rfl (by refine sqPut (cs := #[.int .i64 ((rd_T31 y312 t315).f0), .int .i64 0]) ?_ 1; refine sqPut (cs := #[.int .i64 0, .int .i64 0]) ?_ 0; exact sqK BK293) Tryz.underlying31 rfl (by kernel_rfl)) rfl ?_
    exact ⟨Z15, Z30 HI0 NB0_293 NB0_309, Z31 HI0 GE293 GE309, Z61 GW293 GW309⟩
   ·replace c29 := Bool.eq_false_iff.mpr c29
    subst c29
    rw [if_neg sqF] at H
    simp only [Option.some.injEq, Prod.mk.injEq] at H
    obtain ⟨rfl, rfl, rfl⟩ := H
    go_wp2_with (first | ((with_reducible refine gate_callee (f := 74) rfl ?_); refine goesL_ (some 32) rfl rfl Tryz.func74 (by kernel_rfl) rfl #[.pointer (some ⟨g, 0, none⟩), .int .i64 a1] rfl sqA ?_; (with_reducible refine (spec_l20Rd_odd.calls kj9 g s0_0 t305 a1 false t311 w0 _ ?side1 ?side2 A28.out).mono ?_); (case side1 => exact Z30 HI0 NB0_293 NB0_309); (case side2 => exact Z31 HI0 GE293 GE309); rintro e w41 ⟨rfl, hi, hb, hk⟩; refine ⟨_, rfl, ?_⟩; replace BK293 := Aside0.mk (KeepBut.blk hk (g' := gb293) (o := .cells #[.int .i64 0, .int .i64 0] 31 (0, 0)) (sqK BK293) NB293_0.out (by simp)); replace BK309 := Aside0.mk (KeepBut.blk hk (g' := gb309) (o := .cells #[.int .i64 x310000_9, .int .i64 x310001_9] 31 (0, 0)) (sqK BK309) NB309_0.out (by simp)); replace HK := Aside0.mk (KeepBut.trans (Z61 GW293 GW309) hk (.inl rfl)); replace HB := Aside0.mk (hb); replace HI0 := Aside0.mk (hi); (try clear hb); have hnb42 := NB309_293.out; have hnc42 := NB293_309.out; have hnb43 := NB309_0.out; have hnc43 := NB0_309.out; obtain ⟨hcz44_0, hcz44_1, hfz44_0, hfz44_1⟩ := sqY2 BK309; have hnb45 := NB293_0.out; have hnc45 := NB0_293.out; obtain ⟨hcz46_0, hcz46_1, hfz46_0, hfz46_1⟩ := sqY2 BK293))
    refine bodyPost_ret (results_cell_row rfl _ _ gb293 31 #[.int .i64 x310000_9, .int .i64 x310001_9] (0, 0) _ rfl (by refine sqPut (cs := #[.int .i64 x310000_9, .int .i64 0]) ?_ 1; refine sqPut (cs := #[.int .i64 0, .int .i64 0]) ?_ 0; exact sqK BK293) Tryz.underlying31 rfl (by kernel_rfl)) rfl ?_
    exact ⟨Z15, Z30 HI0 NB0_293 NB0_309, Z31 HI0 GE293 GE309, Z61 GW293 GW309⟩

/-! ### spec_l20Tied: function 115 -/
def spec_l20Tied.f (k : Nat) (s0_0 : List Int) (s0_1 : Int) : Option (Int × Int × Int) := (spec_l20Rd_odd.f k s0_0 s0_1 9).bind fun bt319 => (if bt319.1 = true then ((spec_l20Fraction.f k s0_0 bt319.2 3).bind fun bt321 => (some (bt321.1, bt321.2.1, bt321.2.2))) else ((spec_l20Rd_pick.f k s0_0 bt319.2 13).bind fun bt324 => ((spec_l20Rd_pick.f k s0_0 bt324.2 13).bind fun bt326 => ((spec_l20Rd_pick.f k s0_0 bt326.2 13).bind fun bt328 => ((spec_LowestOf.f k (wrap64 (bt324.1 - bt326.1)) bt328.1).bind fun bt330 => (if bt330.2.2 = true then (some (bt330.1, bt330.2.1, bt328.2)) else (some (1, 0, bt328.2))))))))
theorem spec_l20Tied.mono : ∀ a0 a1 k, LeO (spec_l20Tied.f k a0 a1) (spec_l20Tied.f (k + 1) a0 a1) := by
 intro a0 a1 k
 unfold spec_l20Tied.f
 repeat' first
   | (with_reducible exact spec_LowestOf.mono _ _ _)
   | (with_reducible exact spec_l20Fraction.mono _ _ _ _)
   | (with_reducible exact spec_l20Rd_odd.mono _ _ _ _)
   | (with_reducible exact spec_l20Rd_pick.mono _ _ _ _)
   | (with_reducible exact LeO.refl _)
   | (with_reducible exact LeO.none _)
   | (with_reducible refine LeO.ite ?_ ?_)
   | (with_reducible refine LeO.bind ?_ (fun _ => ?_))
set_option maxHeartbeats 8000000 in
set_option maxRecDepth 100000 in
theorem spec_l20Tied.calls (k : Nat) (g : Nat) (s0_0 : List Int) (s0_1 : Int) (r1 : Int) (r2 : Int) (r3 : Int) (w0 w : World) (hI : IsS131 w0 w g s0_0 s0_1) (hB : Below w0.heap.size w0 w) (h : spec_l20Tied.f k s0_0 s0_1 = some (r1, r2, r3)) :
  Calls Tryz.prog 115 #[.pointer (some ⟨g, 0, none⟩)] w fun e w' => e = .returned (.agg #[.int .i64 r1, .int .i64 r2]) ∧ IsS131 w0 w' g s0_0 r3 ∧ Below w0.heap.size w0 w' ∧ KeepBut w w' g none := by
 have hu31 := Tryz.underlying31
 have HI0 := Aside0.mk hI
 have HK := Aside0.mk (KeepBut.refl w g none)
 have HL := Aside0.mk hB.size
 clear hI
 have HW0 := Aside0.mk hB.size
 have HB := Aside0.mk hB
 clear hB
 have H : ((spec_l20Rd_odd.f k s0_0 s0_1 9).bind fun bt319 => (if bt319.1 = true then ((spec_l20Fraction.f k s0_0 bt319.2 3).bind fun bt321 => (some (bt321.1, bt321.2.1, bt321.2.2))) else ((spec_l20Rd_pick.f k s0_0 bt319.2 13).bind fun bt324 => ((spec_l20Rd_pick.f k s0_0 bt324.2 13).bind fun bt326 => ((spec_l20Rd_pick.f k s0_0 bt326.2 13).bind fun bt328 => ((spec_LowestOf.f k (wrap64 (bt324.1 - bt326.1)) bt328.1).bind fun bt330 => (if bt330.2.2 = true then (some (bt330.1, bt330.2.1, bt328.2)) else (some (1, 0, bt328.2))))))))) = some (r1, r2, r3) := h
 clear h
 obtain ⟨⟨t319, t320⟩, A2, H⟩ := sqD H
 try dsimp only at H
 by_cases c3 : t319 = true
 ·subst c3
  rw [if_pos rfl] at H
  obtain ⟨⟨t321, t322, t323⟩, A4, H⟩ := sqD H
  try dsimp only at H
  simp only [Option.some.injEq, Prod.mk.injEq] at H
  obtain ⟨rfl, rfl, rfl⟩ := H
  go_enter Tryz.func115, Tryz.ntmps115
  go_wp2_with (first | ((with_reducible refine gate_dst (N := 2) rfl ?_); refine sqBox (N := 2) (cs := #[.int .i64 0, .int .i64 0]) (t := 31) ?_; intro gb318 hg w5 BK318 hb; replace HB := Aside0.mk (below_step (Z23 HI0) hb); have GW318 := Aside0.mk ((Z119 : w.heap.size ≤ gb318)); have GE318 := Aside0.mk ((Nat.le_trans HW0.out (Z119 : w.heap.size ≤ gb318) : w0.heap.size ≤ gb318)); replace HK := Aside0.mk (KeepBut.trans Z22 (KeepBut.of_below hb g none) (.inl rfl)); have NB0_318 := Aside0.mk ((Z58 HI0 : g ≠ gb318)); have NB318_0 := Aside0.mk ((Z59 HI0 : gb318 ≠ g)); replace HI0 := Aside0.mk (IsS131.below (Z21 HI0) hb); clear hb hg) | ((with_reducible refine gate_callee (f := 74) rfl ?_); refine goesL_ (some 6) rfl rfl Tryz.func74 (by kernel_rfl) rfl #[.pointer (some ⟨g, 0, none⟩), .int .i64 9] rfl sqA ?_; (with_reducible refine (spec_l20Rd_odd.calls k g s0_0 s0_1 9 true t320 w0 _ ?side1 ?side2 A2.out).mono ?_); (case side1 => exact Z26 HI0 NB0_318); (case side2 => exact Z27 HI0 GE318); rintro e w6 ⟨rfl, hi, hb, hk⟩; refine ⟨_, rfl, ?_⟩; replace BK318 := Aside0.mk (KeepBut.blk hk (g' := gb318) (o := .cells #[.int .i64 0, .int .i64 0] 31 (0, 0)) (sqK BK318) NB318_0.out (by simp)); replace HK := Aside0.mk (KeepBut.trans (Z60 GW318) hk (.inl rfl)); replace HB := Aside0.mk (hb); replace HI0 := Aside0.mk (hi); (try clear hb)) | ((with_reducible refine gate_callee (f := 113) rfl ?_); refine goesL_ (some 8) rfl rfl Tryz.func113 (by kernel_rfl) rfl #[.pointer (some ⟨g, 0, none⟩), .int .i64 3] rfl sqA ?_; (with_reducible refine (spec_l20Fraction.calls k g s0_0 t320 3 t321 t322 t323 w0 _ ?side1 ?side2 A4.out).mono ?_); (case side1 => exact Z26 HI0 NB0_318); (case side2 => exact Z27 HI0 GE318); rintro e w7 ⟨rfl, hi, hb, hk⟩; refine ⟨_, rfl, ?_⟩; replace BK318 := Aside0.mk (KeepBut.blk hk (g' := gb318) (o := .cells #[.int .i64 0, .int .i64 0] 31 (0, 0)) (sqK BK318) NB318_0.out (by simp)); replace HK := Aside0.mk (KeepBut.trans (Z60 GW318) hk (.inl rfl)); replace HB := Aside0.mk (hb); replace HI0 := Aside0.mk (hi); (try clear hb); have hnb8 := NB318_0.out; have hnc8 := NB0_318.out; obtain ⟨hcz9_0, hcz9_1, hfz9_0, hfz9_1⟩ := sqY2 BK318))
  refine bodyPost_ret (results_cell_row rfl _ _ gb318 31 #[.int .i64 t321, .int .i64 t322] (0, 0) _ rfl (by refine sqPut (cs := #[.int .i64 t321, .int .i64 0]) ?_ 1; refine sqPut (cs := #[.int .i64 0, .int .i64 0]) ?_ 0; exact sqK BK318) Tryz.underlying31 rfl (by kernel_rfl)) rfl ?_
  exact ⟨Z15, Z26 HI0 NB0_318, Z27 HI0 GE318, Z60 GW318⟩
 ·replace c3 := Bool.eq_false_iff.mpr c3
  subst c3
  rw [if_neg sqF] at H
  obtain ⟨⟨t324, t325⟩, A10, H⟩ := sqD H
  try dsimp only at H
  obtain ⟨⟨t326, t327⟩, A11, H⟩ := sqD H
  try dsimp only at H
  obtain ⟨⟨t328, t329⟩, A12, H⟩ := sqD H
  try dsimp only at H
  obtain ⟨⟨t330, t331, t332⟩, A13, H⟩ := sqD H
  try dsimp only at H
  by_cases c14 : t332 = true
  ·subst c14
   rw [if_pos rfl] at H
   simp only [Option.some.injEq, Prod.mk.injEq] at H
   obtain ⟨rfl, rfl, rfl⟩ := H
   go_enter Tryz.func115, Tryz.ntmps115
   go_wp2_with (first | ((with_reducible refine gate_dst (N := 2) rfl ?_); refine sqBox (N := 2) (cs := #[.int .i64 0, .int .i64 0]) (t := 31) ?_; intro gb318 hg w15 BK318 hb; replace HB := Aside0.mk (below_step (Z23 HI0) hb); have GW318 := Aside0.mk ((Z119 : w.heap.size ≤ gb318)); have GE318 := Aside0.mk ((Nat.le_trans HW0.out (Z119 : w.heap.size ≤ gb318) : w0.heap.size ≤ gb318)); replace HK := Aside0.mk (KeepBut.trans Z22 (KeepBut.of_below hb g none) (.inl rfl)); have NB0_318 := Aside0.mk ((Z58 HI0 : g ≠ gb318)); have NB318_0 := Aside0.mk ((Z59 HI0 : gb318 ≠ g)); replace HI0 := Aside0.mk (IsS131.below (Z21 HI0) hb); clear hb hg) | ((with_reducible refine gate_callee (f := 74) rfl ?_); refine goesL_ (some 6) rfl rfl Tryz.func74 (by kernel_rfl) rfl #[.pointer (some ⟨g, 0, none⟩), .int .i64 9] rfl sqA ?_; (with_reducible refine (spec_l20Rd_odd.calls k g s0_0 s0_1 9 false t320 w0 _ ?side1 ?side2 A2.out).mono ?_); (case side1 => exact Z26 HI0 NB0_318); (case side2 => exact Z27 HI0 GE318); rintro e w16 ⟨rfl, hi, hb, hk⟩; refine ⟨_, rfl, ?_⟩; replace BK318 := Aside0.mk (KeepBut.blk hk (g' := gb318) (o := .cells #[.int .i64 0, .int .i64 0] 31 (0, 0)) (sqK BK318) NB318_0.out (by simp)); replace HK := Aside0.mk (KeepBut.trans (Z60 GW318) hk (.inl rfl)); replace HB := Aside0.mk (hb); replace HI0 := Aside0.mk (hi); (try clear hb)) | ((with_reducible refine gate_callee (f := 82) rfl ?_); refine goesL_ (some 11) rfl rfl Tryz.func82 (by kernel_rfl) rfl #[.pointer (some ⟨g, 0, none⟩), .int .i64 13] rfl sqA ?_; (with_reducible refine (spec_l20Rd_pick.calls k g s0_0 t320 13 t324 t325 w0 _ ?side1 ?side2 A10.out).mono ?_); (case side1 => exact Z26 HI0 NB0_318); (case side2 => exact Z27 HI0 GE318); rintro e w17 ⟨rfl, hi, hb, hk⟩; refine ⟨_, rfl, ?_⟩; replace BK318 := Aside0.mk (KeepBut.blk hk (g' := gb318) (o := .cells #[.int .i64 0, .int .i64 0] 31 (0, 0)) (sqK BK318) NB318_0.out (by simp)); replace HK := Aside0.mk (KeepBut.trans (Z60 GW318) hk (.inl rfl)); replace HB := Aside0.mk (hb); replace HI0 := Aside0.mk (hi); (try clear hb)) | ((with_reducible refine gate_callee (f := 82) rfl ?_); refine goesL_ (some 13) rfl rfl Tryz.func82 (by kernel_rfl) rfl #[.pointer (some ⟨g, 0, none⟩), .int .i64 13] rfl sqA ?_; (with_reducible refine (spec_l20Rd_pick.calls k g s0_0 t325 13 t326 t327 w0 _ ?side1 ?side2 A11.out).mono ?_); (case side1 => exact Z26 HI0 NB0_318); (case side2 => exact Z27 HI0 GE318); rintro e w18 ⟨rfl, hi, hb, hk⟩; refine ⟨_, rfl, ?_⟩; replace BK318 := Aside0.mk (KeepBut.blk hk (g' := gb318) (o := .cells #[.int .i64 0, .int .i64 0] 31 (0, 0)) (sqK BK318) NB318_0.out (by simp)); replace HK := Aside0.mk (KeepBut.trans (Z60 GW318) hk (.inl rfl)); replace HB := Aside0.mk (hb); replace HI0 := Aside0.mk (hi); (try clear hb)) | ((with_reducible refine gate_callee (f := 82) rfl ?_); refine goesL_ (some 16) rfl rfl Tryz.func82 (by kernel_rfl) rfl #[.pointer (some ⟨g, 0, none⟩), .int .i64 13] rfl sqA ?_; (with_reducible refine (spec_l20Rd_pick.calls k g s0_0 t327 13 t328 t329 w0 _ ?side1 ?side2 A12.out).mono ?_); (case side1 => exact Z26 HI0 NB0_318); (case side2 => exact Z27 HI0 GE318); rintro e w19 ⟨rfl, hi, hb, hk⟩; refine ⟨_, rfl, ?_⟩; replace BK318 := Aside0.mk (KeepBut.blk hk (g' := gb318) (o := .cells #[.int .i64 0, .int .i64 0] 31 (0, 0)) (sqK BK318) NB318_0.out (by simp)); replace HK := Aside0.mk (KeepBut.trans (Z60 GW318) hk (.inl rfl)); replace HB := Aside0.mk (hb); replace HI0 := Aside0.mk (hi); (try clear hb)) | ((with_reducible refine gate_callee (f := 136) rfl ?_); refine goesL_ (some 17) rfl rfl Tryz.func136 (by kernel_rfl) rfl #[.int .i64 (wrap64 (t324 - t326)), .int .i64 t328] rfl sqA ?_; (with_reducible refine (spec_LowestOf.calls k (wrap64 (t324 - t326)) t328 t330 t331 true _ A13.out).mono ?_); rintro e w20 ⟨rfl, hb⟩; refine ⟨_, rfl, ?_⟩; replace BK318 := sqT BK318 hb; replace HK := Aside0.mk (KeepBut.trans (Z60 GW318) (KeepBut.of_below hb g none) (.inl rfl)); replace HB := Aside0.mk (below_step (Z27 HI0 GE318) hb); replace HI0 := Aside0.mk (IsS131.below (Z26 HI0 NB0_318) hb); (try clear hb)) | ((with_reducible refine gate_dst (N := 3) rfl ?_); refine sqBox (N := 3) (cs := #[.int .i64 0, .int .i64 0]) (t := 31) ?_; intro gb333 hg w21 BK333 hb; replace HB := Aside0.mk (below_step (Z27 HI0 GE318) hb); have GW333 := Aside0.mk ((Z120 GW318 : w.heap.size ≤ gb333)); have GE333 := Aside0.mk ((Nat.le_trans HW0.out (Z120 GW318 : w.heap.size ≤ gb333) : w0.heap.size ≤ gb333)); replace HK := Aside0.mk (KeepBut.trans (Z60 GW318) (KeepBut.of_below hb g none) (.inl rfl)); obtain ⟨NB318_333, NB333_318⟩ := sqM hg BK318; replace BK318 := sqT BK318 hb; have NB0_333 := Aside0.mk ((Z62 HI0 NB0_318 : g ≠ gb333)); have NB333_0 := Aside0.mk ((Z63 HI0 NB0_318 : gb333 ≠ g)); replace HI0 := Aside0.mk (IsS131.below (Z26 HI0 NB0_318) hb); clear hb hg; have hnb22 := NB333_318.out; have hnc22 := NB318_333.out; have hnb23 := NB333_0.out; have hnc23 := NB0_333.out; obtain ⟨hcz24_0, hcz24_1, hfz24_0, hfz24_1⟩ := sqY2 BK333; have hnb25 := NB318_0.out; have hnc25 := NB0_318.out; obtain ⟨hcz26_0, hcz26_1, hfz26_0, hfz26_1⟩ := sqY2 BK318))
   refine bodyPost_ret (results_cell_row rfl _ _ gb318 31 #[.int .i64 t330, .int .i64 t331] (0, 0) _ rfl (by refine sqPut (cs := #[.int .i64 t330, .int .i64 0]) ?_ 1; refine sqPut (cs := #[.int .i64 0, .int .i64 0]) ?_ 0; refine sqFar ?_ NB318_333; refine sqFar ?_ NB318_333; exact sqK BK318) Tryz.underlying31 rfl (by kernel_rfl)) rfl ?_
   exact ⟨Z15, Z30 HI0 NB0_318 NB0_333, Z31 HI0 GE318 GE333, Z61 GW318 GW333⟩
  ·replace c14 := Bool.eq_false_iff.mpr c14
   subst c14
   rw [if_neg sqF] at H
   simp only [Option.some.injEq, Prod.mk.injEq] at H
   obtain ⟨rfl, rfl, rfl⟩ := H
   go_enter Tryz.func115, Tryz.ntmps115
   go_wp2_with (first | ((with_reducible refine gate_dst (N := 2) rfl ?_); refine sqBox (N := 2) (cs := #[.int .i64 0, .int .i64 0]) (t := 31) ?_; intro gb318 hg w27 BK318 hb; replace HB := Aside0.mk (below_step (Z23 HI0) hb); have GW318 := Aside0.mk ((Z119 : w.heap.size ≤ gb318)); have GE318 := Aside0.mk ((Nat.le_trans HW0.out (Z119 : w.heap.size ≤ gb318) : w0.heap.size ≤ gb318)); replace HK := Aside0.mk (KeepBut.trans Z22 (KeepBut.of_below hb g none) (.inl rfl)); have NB0_318 := Aside0.mk ((Z58 HI0 : g ≠ gb318)); have NB318_0 := Aside0.mk ((Z59 HI0 : gb318 ≠ g)); replace HI0 := Aside0.mk (IsS131.below (Z21 HI0) hb); clear hb hg) | ((with_reducible refine gate_callee (f := 74) rfl ?_); refine goesL_ (some 6) rfl rfl Tryz.func74 (by kernel_rfl) rfl #[.pointer (some ⟨g, 0, none⟩), .int .i64 9] rfl sqA ?_; (with_reducible refine (spec_l20Rd_odd.calls k g s0_0 s0_1 9 false t320 w0 _ ?side1 ?side2 A2.out).mono ?_); (case side1 => exact Z26 HI0 NB0_318); (case side2 => exact Z27 HI0 GE318); rintro e w28 ⟨rfl, hi, hb, hk⟩; refine ⟨_, rfl, ?_⟩; replace BK318 := Aside0.mk (KeepBut.blk hk (g' := gb318) (o := .cells #[.int .i64 0, .int .i64 0] 31 (0, 0)) (sqK BK318) NB318_0.out (by simp)); replace HK := Aside0.mk (KeepBut.trans (Z60 GW318) hk (.inl rfl)); replace HB := Aside0.mk (hb); replace HI0 := Aside0.mk (hi); (try clear hb)) | ((with_reducible refine gate_callee (f := 82) rfl ?_); refine goesL_ (some 11) rfl rfl Tryz.func82 (by kernel_rfl) rfl #[.pointer (some ⟨g, 0, none⟩), .int .i64 13] rfl sqA ?_; (with_reducible refine (spec_l20Rd_pick.calls k g s0_0 t320 13 t324 t325 w0 _ ?side1 ?side2 A10.out).mono ?_); (case side1 => exact Z26 HI0 NB0_318); (case side2 => exact Z27 HI0 GE318); rintro e w29 ⟨rfl, hi, hb, hk⟩; refine ⟨_, rfl, ?_⟩; replace BK318 := Aside0.mk (KeepBut.blk hk (g' := gb318) (o := .cells #[.int .i64 0, .int .i64 0] 31 (0, 0)) (sqK BK318) NB318_0.out (by simp)); replace HK := Aside0.mk (KeepBut.trans (Z60 GW318) hk (.inl rfl)); replace HB := Aside0.mk (hb); replace HI0 := Aside0.mk (hi); (try clear hb)) | ((with_reducible refine gate_callee (f := 82) rfl ?_); refine goesL_ (some 13) rfl rfl Tryz.func82 (by kernel_rfl) rfl #[.pointer (some ⟨g, 0, none⟩), .int .i64 13] rfl sqA ?_; (with_reducible refine (spec_l20Rd_pick.calls k g s0_0 t325 13 t326 t327 w0 _ ?side1 ?side2 A11.out).mono ?_); (case side1 => exact Z26 HI0 NB0_318); (case side2 => exact Z27 HI0 GE318); rintro e w30 ⟨rfl, hi, hb, hk⟩; refine ⟨_, rfl, ?_⟩; replace BK318 := Aside0.mk (KeepBut.blk hk (g' := gb318) (o := .cells #[.int .i64 0, .int .i64 0] 31 (0, 0)) (sqK BK318) NB318_0.out (by simp)); replace HK := Aside0.mk (KeepBut.trans (Z60 GW318) hk (.inl rfl)); replace HB := Aside0.mk (hb); replace HI0 := Aside0.mk (hi); (try clear hb)) | ((with_reducible refine gate_callee (f := 82) rfl ?_); refine goesL_ (some 16) rfl rfl Tryz.func82 (by kernel_rfl) rfl #[.pointer (some ⟨g, 0, none⟩), .int .i64 13] rfl sqA ?_; (with_reducible refine (spec_l20Rd_pick.calls k g s0_0 t327 13 t328 t329 w0 _ ?side1 ?side2 A12.out).mono ?_); (case side1 => exact Z26 HI0 NB0_318); (case side2 => exact Z27 HI0 GE318); rintro e w31 ⟨rfl, hi, hb, hk⟩; refine ⟨_, rfl, ?_⟩; replace BK318 := Aside0.mk (KeepBut.blk hk (g' := gb318) (o := .cells #[.int .i64 0, .int .i64 0] 31 (0, 0)) (sqK BK318) NB318_0.out (by simp)); replace HK := Aside0.mk (KeepBut.trans (Z60 GW318) hk (.inl rfl)); replace HB := Aside0.mk (hb); replace HI0 := Aside0.mk (hi); (try clear hb)) | ((with_reducible refine gate_callee (f := 136) rfl ?_); refine goesL_ (some 17) rfl rfl Tryz.func136 (by kernel_rfl) rfl #[.int .i64 (wrap64 (t324 - t326)), .int .i64 t328] rfl sqA ?_; (with_reducible refine (spec_LowestOf.calls k (wrap64 (t324 - t326)) t328 t330 t331 false _ A13.out).mono ?_); rintro e w32 ⟨rfl, hb⟩; refine ⟨_, rfl, ?_⟩; replace BK318 := sqT BK318 hb; replace HK := Aside0.mk (KeepBut.trans (Z60 GW318) (KeepBut.of_below hb g none) (.inl rfl)); replace HB := Aside0.mk (below_step (Z27 HI0 GE318) hb); replace HI0 := Aside0.mk (IsS131.below (Z26 HI0 NB0_318) hb); (try clear hb)) | ((with_reducible refine gate_dst (N := 3) rfl ?_); refine sqBox (N := 3) (cs := #[.int .i64 0, .int .i64 0]) (t := 31) ?_; intro gb333 hg w33 BK333 hb; replace HB := Aside0.mk (below_step (Z27 HI0 GE318) hb); have GW333 := Aside0.mk ((Z120 GW318 : w.heap.size ≤ gb333)); have GE333 := Aside0.mk ((Nat.le_trans HW0.out (Z120 GW318 : w.heap.size ≤ gb333) : w0.heap.size ≤ gb333)); replace HK := Aside0.mk (KeepBut.trans (Z60 GW318) (KeepBut.of_below hb g none) (.inl rfl)); obtain ⟨NB318_333, NB333_318⟩ := sqM hg BK318; replace BK318 := sqT BK318 hb; have NB0_333 := Aside0.mk ((Z62 HI0 NB0_318 : g ≠ gb333)); have NB333_0 := Aside0.mk ((Z63 HI0 NB0_318 : gb333 ≠ g)); replace HI0 := Aside0.mk (IsS131.below (Z26 HI0 NB0_318) hb); clear hb hg; have hnb34 := NB333_318.out; have hnc34 := NB318_333.out; have hnb35 := NB333_0.out; have hnc35 := NB0_333.out; obtain ⟨hcz36_0, hcz36_1, hfz36_0, hfz36_1⟩ := sqY2 BK333; have hnb37 := NB318_0.out; have hnc37 := NB0_318.out; obtain ⟨hcz38_0, hcz38_1, hfz38_0, hfz38_1⟩ := sqY2 BK318))
   refine bodyPost_ret (results_cell_row rfl _ _ gb318 31 #[.int .i64 1, .int .i64 0] (0, 0) _ rfl (by refine sqPut (cs := #[.int .i64 1, .int .i64 0]) ?_ 1; refine sqPut (cs := #[.int .i64 0, .int .i64 0]) ?_ 0; refine sqFar ?_ NB318_333; refine sqFar ?_ NB318_333; exact sqK BK318) Tryz.underlying31 rfl (by kernel_rfl)) rfl ?_
   exact ⟨Z15, Z30 HI0 NB0_318 NB0_333, Z31 HI0 GE318 GE333, Z61 GW318 GW333⟩

end Go.Proofs.YtofmlbgfcohhoaaGreatDoor.PFnDeskRun
