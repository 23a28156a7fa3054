import Derived.Test.YtofmlbgfcohhoaaGreatDoorPFnDeskSayx13
import Derived.Test.YtofmlbgfcohhoaaGreatDoorPFnDeskSayx24
set_option maxHeartbeats 8000000
set_option maxRecDepth 100000
namespace Go.Proofs.YtofmlbgfcohhoaaGreatDoor.PFnDeskSay
open Go.RowKit Go.Proofs.YtofmlbgfcohhoaaGreatDoorW.PrintWords Go.Proofs.YtofmlbgfcohhoaaGreatDoorW.PrintLast Go.Proofs.YtofmlbgfcohhoaaGreatDoorW.PrintMore Go.Proofs.YtofmlbgfcohhoaaGreatDoor.Lib Go.Proofs.Tryz
attribute [local go_sem] max2_int min2_int max_two min_two max_three min_three max_four min_four   -- for this text's walks alone
set_option linter.unusedVariables false
set_option linter.unusedSimpArgs false

def F52.l0 : Nat → Int → ByteArray → Int → List Int → Int → Option (ByteArray × Int)
 | 0, _, _, _, _, _ => none
 | k + 1, x2, x7, x8, x0, x1 => if x8 > 0 then ((some (([(⟨#[84]⟩ : ByteArray), (⟨#[84]⟩ : ByteArray), (⟨#[82]⟩ : ByteArray), (⟨#[116]⟩ : ByteArray), (⟨#[82]⟩ : ByteArray), (⟨#[84]⟩ : ByteArray)] : List ByteArray) : List ByteArray)).bind fun y0 => ((F1.f k x0 x1 6).bind fun bt0 => (if 0 ≤ bt0.1 then (if bt0.1 < (y0.length : Int) then (if x7.size + (rdOf ByteArray.empty y0 bt0.1).size ≤ 9223372036854775807 then (F52.l0 k x2 (x7 ++ (rdOf ByteArray.empty y0 bt0.1)) (wrap64 (x8 - 1)) x0 bt0.2) else (none)) else (none)) else (none)))) else ((F28.f k x0 x1 x2).bind fun bt1 => (if bt1.1 = true then ((some (([(⟨#[120]⟩ : ByteArray), (⟨#[114]⟩ : ByteArray), (⟨#[84, 84, 84, 84, 84, 84, 84, 84, 84, 84, 84, 84, 84, 84, 84, 84, 84, 84, 84, 84, 84, 84, 84, 84, 84, 84, 84, 84, 84, 84, 84, 84, 84, 84, 84, 84, 84, 84, 84, 84, 84]⟩ : ByteArray)] : List ByteArray) : List ByteArray)).bind fun y1 => ((F1.f k x0 bt1.2 3).bind fun bt2 => (if 0 ≤ bt2.1 then (if bt2.1 < (y1.length : Int) then (if x7.size + (rdOf ByteArray.empty y1 bt2.1).size ≤ 9223372036854775807 then (some (x7 ++ (rdOf ByteArray.empty y1 bt2.1), bt2.2)) else (none)) else (none)) else (none)))) else (some (x7, bt1.2))))
def F52.f (k : Nat) (s0_0 : List Int) (s0_1 : Int) (a1 : Int) (a2 : Int) : Option (ByteArray × Int) := (F1.f k s0_0 s0_1 (wrap64 (a1 + 1))).bind fun bt0 => (F52.l0 k a2 (⟨#[]⟩ : ByteArray) bt0.1 s0_0 bt0.2)
theorem F52.c (k : Nat) (g : Nat) (s0_0 : List Int) (s0_1 : Int) (a1 : Int) (a2 : Int) (r1 : ByteArray) (r2 : Int) (w0 w : World) (hI : IsS131 w0 w g s0_0 s0_1) (hB : Below w0.heap.size w0 w) (H : F52.f k s0_0 s0_1 a1 a2 = some (r1, r2)) :
  Calls prog 114 #[.pointer (some ⟨g, 0, none⟩), .int .i64 a1, .int .i64 a2] w fun e w' => e = .returned (.string r1) ∧ IsS131 w0 w' g s0_0 r2 ∧ Below w0.heap.size w0 w' ∧ KeepBut w w' g none := by
 have HI0 := sqa hI
 have HK := sqa (KeepBut.refl w g none)
 have HL := sqa hB.size
 clear hI
 have HW0 := sqa hB.size
 have HB := sqa hB
 clear hB
 unfold F52.f at H
 obtain ⟨⟨t0, t1⟩, A4, H⟩ := sqD H
 try dsimp only at H
 have H' := sqa H
 clear H
 go_enter func114, ntmps114
 go_wp2_with (first | ((with_reducible refine sqc 82 rfl ?_); refine sqvs (some 12) func82 (args := #[.pointer (some ⟨g, 0, none⟩), .int .i64 (wrap64 (a1 + 1))]) (F1.c k g s0_0 s0_1 (wrap64 (a1 + 1)) t0 t1 w0 _ (Z78 HI0) (Z80 HI0) A4.1) fun w5 hi hb hk => ?_; replace HK := sqa (KeepBut.trans Z79 hk (.inl rfl)); replace HB := sqa (hb); replace HI0 := sqa (hi)))
 go_loopg [7, 8] k (fun kq v7 v8 w' => ∃ (x7_1 : ByteArray) (x8_1 : Int) (x1001_1 : Int), v7 = .string x7_1 ∧ v8 = .int .i64 x8_1 ∧ Aside0 (F52.l0 kq a2 x7_1 x8_1 s0_0 x1001_1 = some (r1, r2)) ∧ Aside0 (kq ≤ k) ∧ Aside0 (IsS131 w0 w' g s0_0 x1001_1) ∧ Aside0 (KeepBut w w' g none) ∧ Aside0 (Below w0.heap.size w0 w'))
 case atStart => exact ⟨((⟨#[]⟩ : ByteArray)), (t0), (t1), Z1, Z1, H', ⟨Nat.le_refl _⟩, ⟨Z78 HI0⟩, ⟨Z79⟩, ⟨Z80 HI0⟩⟩
 case round =>
  clear H'
  obtain ⟨x7_1, x8_1, x1001_1, rfl, rfl, HA, HK1, HI0, HK, HB⟩ := hrel
  cases gk with
  | zero => exact absurd HA.out (by simp [F52.l0])
  | succ k1 =>
   have H := HA.out
   clear HA
   simp only [F52.l0] at H
   obtain ⟨c6b0, H⟩ | ⟨c6b0, H⟩ := sqi3g H
   ·obtain ⟨y0, hy0⟩ : ∃ y_ : List ByteArray, y_ = (([(⟨#[84]⟩ : ByteArray), (⟨#[84]⟩ : ByteArray), (⟨#[82]⟩ : ByteArray), (⟨#[116]⟩ : ByteArray), (⟨#[82]⟩ : ByteArray), (⟨#[84]⟩ : ByteArray)] : List ByteArray)) := ⟨_, rfl⟩
    replace H : ((F1.f k1 s0_0 x1001_1 6).bind fun bt0 => (if 0 ≤ bt0.1 then (if bt0.1 < (y0.length : Int) then (if x7_1.size + (rdOf ByteArray.empty y0 bt0.1).size ≤ 9223372036854775807 then (F52.l0 k1 a2 (x7_1 ++ (rdOf ByteArray.empty y0 bt0.1)) (wrap64 (x8_1 - 1)) s0_0 bt0.2) else (none)) else (none)) else (none))) = some (r1, r2) := sqW hy0 H
    have Ny0 := sqa hy0
    clear hy0
    obtain ⟨⟨t2, t3⟩, A7, H⟩ := sqD H
    try dsimp only at H
    obtain ⟨c8b0, H⟩ := sqJ2 H
    obtain ⟨c9b0, H⟩ := sqJ2 H
    obtain ⟨c10, c0, c1, H⟩ := sqJ5 H
    try have c2 : (9223372036854775807 < x7_1.size + (rdOf ByteArray.empty y0 t2).size) = False := eq_false (Nat.not_lt.2 c10)
    have H' := sqa H
    clear H
    go_wp2_with (first | ((with_reducible refine sqd 18 rfl ?_); refine Kd.R_lit Kd.string _ 9 ?hg (N := 18) ?hd (xs := ([(⟨#[84]⟩ : ByteArray), (⟨#[84]⟩ : ByteArray), (⟨#[82]⟩ : ByteArray), (⟨#[116]⟩ : ByteArray), (⟨#[82]⟩ : ByteArray), (⟨#[84]⟩ : ByteArray)] : List ByteArray)) (inner := [.string (⟨#[84]⟩ : ByteArray), .string (⟨#[84]⟩ : ByteArray), .string (⟨#[82]⟩ : ByteArray), .string (⟨#[116]⟩ : ByteArray), .string (⟨#[82]⟩ : ByteArray), .string (⟨#[84]⟩ : ByteArray)]) (ok := fun _ => True) (okp := fun _ => True) ?hr ?hp (fun _ hk => hk) trivial (Below.refl _ _) (Nat.le_refl _) (by simp) ?_; (case hd => rfl); (case hg => rfl); (case hr => exact Z17); (case hp => exact (Reps.one (show Kd.M Kd.string _ _ _ (⟨#[84]⟩ : ByteArray) [.string (⟨#[84]⟩ : ByteArray)] from rfl) (Reps.one (show Kd.M Kd.string _ _ _ (⟨#[84]⟩ : ByteArray) [.string (⟨#[84]⟩ : ByteArray)] from rfl) (Reps.one (show Kd.M Kd.string _ _ _ (⟨#[82]⟩ : ByteArray) [.string (⟨#[82]⟩ : ByteArray)] from rfl) (Reps.one (show Kd.M Kd.string _ _ _ (⟨#[116]⟩ : ByteArray) [.string (⟨#[116]⟩ : ByteArray)] from rfl) (Reps.one (show Kd.M Kd.string _ _ _ (⟨#[82]⟩ : ByteArray) [.string (⟨#[82]⟩ : ByteArray)] from rfl) (Reps.one (show Kd.M Kd.string _ _ _ (⟨#[84]⟩ : ByteArray) [.string (⟨#[84]⟩ : ByteArray)] from rfl) (Reps.none _ _)))))))); intro v0 w1 ho0 hb hg_ hnew_; clear hg_ hnew_; (first | rw [← Ny0.out] at ho0 | (simp only [Int.reduceToNat] at ho0; rw [← Ny0.out] at ho0)); have O0 := sqa (Kd.R_lower ho0 (keep_size (w := w) (g := g) (row := none) Z79)); replace HK := sqa (KeepBut.trans Z79 (KeepBut.of_below hb g none) (.inl rfl)); replace HB := sqa (below_step (Z80 HI0) hb); replace HI0 := sqa (IsS131.below (Z78 HI0) hb); clear hb ho0) | ((with_reducible refine sqc 82 rfl ?_); refine sqvs (some 20) func82 (args := #[.pointer (some ⟨g, 0, none⟩), .int .i64 6]) (F1.c k1 g s0_0 x1001_1 6 t2 t3 w0 _ (Z78 HI0) (Z80 HI0) A7.1) fun w2 hi hb hk => ?_; replace O0 := sqa (Kd.R_mono (Kd.R_keep (IsS131.apart (show IsS131 w0 _ g s0_0 x1001_1 from by repeat (first | (with_reducible first | exact HI0.1 | apply IsS131.alloc | apply IsS131.drewN | apply IsS131.drew | apply IsS131.set_1) | exact HI0.1)) (sqR O0) (by decide)) hk (fun _ h => h.2)) (fun _ h => h.1)); replace HK := sqa (KeepBut.trans Z79 hk (.inl rfl)); replace HB := sqa (hb); replace HI0 := sqa (hi); obtain ⟨Ao0, co0, eo0⟩ := Kd.R_slice O0.1; subst eo0; have p0 : 0 ≤ (t2 : Int) := of_decide_eq_true Z16; have q0 : t2 < (y0.length : Int) := of_decide_eq_true Z16; obtain ⟨ad0, e0, hx0⟩ := Kd.at_string (Kd.R_reads' O0.1).2.2 t2 p0 q0; cases e0; replace p0 := eq_true p0; replace q0 := eq_true q0))
    go_roundg k1
    case measure => have := HK1.out; omega
    case rel => exact ⟨(x7_1 ++ (rdOf ByteArray.empty y0 t2)), (wrap64 (x8_1 - 1)), (t3), Z1, Z1, H', ⟨Z2 HK1⟩, ⟨Z78 HI0⟩, ⟨Z79⟩, ⟨Z80 HI0⟩⟩
   obtain ⟨⟨t4, t5⟩, A0, H⟩ := sqD H
   try dsimp only at H
   obtain rfl | rfl := sqt t4
   ·rw [if_pos rfl] at H
    obtain ⟨y1, hy1⟩ : ∃ y_ : List ByteArray, y_ = (([(⟨#[120]⟩ : ByteArray), (⟨#[114]⟩ : ByteArray), (⟨#[84, 84, 84, 84, 84, 84, 84, 84, 84, 84, 84, 84, 84, 84, 84, 84, 84, 84, 84, 84, 84, 84, 84, 84, 84, 84, 84, 84, 84, 84, 84, 84, 84, 84, 84, 84, 84, 84, 84, 84, 84]⟩ : ByteArray)] : List ByteArray)) := ⟨_, rfl⟩
    replace H : ((F1.f k1 s0_0 t5 3).bind fun bt1 => (if 0 ≤ bt1.1 then (if bt1.1 < (y1.length : Int) then (if x7_1.size + (rdOf ByteArray.empty y1 bt1.1).size ≤ 9223372036854775807 then (some (x7_1 ++ (rdOf ByteArray.empty y1 bt1.1), bt1.2)) else (none)) else (none)) else (none))) = some (r1, r2) := sqW hy1 H
    have Ny1 := sqa hy1
    clear hy1
    obtain ⟨⟨t6, t7⟩, A1, H⟩ := sqD H
    try dsimp only at H
    obtain ⟨c5, H⟩ := sqJ2 H
    obtain ⟨c11, H⟩ := sqJ2 H
    obtain ⟨c20, c12, c13, H⟩ := sqJ5 H
    try have c14 : (9223372036854775807 < x7_1.size + (rdOf ByteArray.empty y1 t6).size) = False := eq_false (Nat.not_lt.2 c20)
    obtain ⟨rfl, rfl⟩ := sqO2 H
    go_wp2_with (first | ((with_reducible refine sqc 74 rfl ?_); refine sqvs (some 26) func74 (args := #[.pointer (some ⟨g, 0, none⟩), .int .i64 a2]) (F28.c k1 g s0_0 x1001_1 a2 true t5 w0 _ (Z78 HI0) (Z80 HI0) A0.1) fun w3 hi hb hk => ?_; replace HK := sqa (KeepBut.trans Z79 hk (.inl rfl)); replace HB := sqa (hb); replace HI0 := sqa (hi)) | ((with_reducible refine sqd 28 rfl ?_); refine Kd.R_lit Kd.string _ 9 ?hg (N := 28) ?hd (xs := ([(⟨#[120]⟩ : ByteArray), (⟨#[114]⟩ : ByteArray), (⟨#[84, 84, 84, 84, 84, 84, 84, 84, 84, 84, 84, 84, 84, 84, 84, 84, 84, 84, 84, 84, 84, 84, 84, 84, 84, 84, 84, 84, 84, 84, 84, 84, 84, 84, 84, 84, 84, 84, 84, 84, 84]⟩ : ByteArray)] : List ByteArray)) (inner := [.string (⟨#[120]⟩ : ByteArray), .string (⟨#[114]⟩ : ByteArray), .string (⟨#[84, 84, 84, 84, 84, 84, 84, 84, 84, 84, 84, 84, 84, 84, 84, 84, 84, 84, 84, 84, 84, 84, 84, 84, 84, 84, 84, 84, 84, 84, 84, 84, 84, 84, 84, 84, 84, 84, 84, 84, 84]⟩ : ByteArray)]) (ok := fun _ => True) (okp := fun _ => True) ?hr ?hp (fun _ hk => hk) trivial (Below.refl _ _) (Nat.le_refl _) (by simp) ?_; (case hd => rfl); (case hg => rfl); (case hr => exact Z17); (case hp => exact (Reps.one (show Kd.M Kd.string _ _ _ (⟨#[120]⟩ : ByteArray) [.string (⟨#[120]⟩ : ByteArray)] from rfl) (Reps.one (show Kd.M Kd.string _ _ _ (⟨#[114]⟩ : ByteArray) [.string (⟨#[114]⟩ : ByteArray)] from rfl) (Reps.one (show Kd.M Kd.string _ _ _ (⟨#[84, 84, 84, 84, 84, 84, 84, 84, 84, 84, 84, 84, 84, 84, 84, 84, 84, 84, 84, 84, 84, 84, 84, 84, 84, 84, 84, 84, 84, 84, 84, 84, 84, 84, 84, 84, 84, 84, 84, 84, 84]⟩ : ByteArray) [.string (⟨#[84, 84, 84, 84, 84, 84, 84, 84, 84, 84, 84, 84, 84, 84, 84, 84, 84, 84, 84, 84, 84, 84, 84, 84, 84, 84, 84, 84, 84, 84, 84, 84, 84, 84, 84, 84, 84, 84, 84, 84, 84]⟩ : ByteArray)] from rfl) (Reps.none _ _))))); intro v1 w4 ho1 hb hg_ hnew_; clear hg_ hnew_; (first | rw [← Ny1.out] at ho1 | (simp only [Int.reduceToNat] at ho1; rw [← Ny1.out] at ho1)); have O1 := sqa (Kd.R_lower ho1 (keep_size (w := w) (g := g) (row := none) Z79)); replace HK := sqa (KeepBut.trans Z79 (KeepBut.of_below hb g none) (.inl rfl)); replace HB := sqa (below_step (Z80 HI0) hb); replace HI0 := sqa (IsS131.below (Z78 HI0) hb); clear hb ho1) | ((with_reducible refine sqc 82 rfl ?_); refine sqvs (some 30) func82 (args := #[.pointer (some ⟨g, 0, none⟩), .int .i64 3]) (F1.c k1 g s0_0 t5 3 t6 t7 w0 _ (Z78 HI0) (Z80 HI0) A1.1) fun w6 hi hb hk => ?_; replace O1 := sqa (Kd.R_mono (Kd.R_keep (IsS131.apart (show IsS131 w0 _ g s0_0 t5 from by repeat (first | (with_reducible first | exact HI0.1 | apply IsS131.alloc | apply IsS131.drewN | apply IsS131.drew | apply IsS131.set_1) | exact HI0.1)) (sqR O1) (by decide)) hk (fun _ h => h.2)) (fun _ h => h.1)); replace HK := sqa (KeepBut.trans Z79 hk (.inl rfl)); replace HB := sqa (hb); replace HI0 := sqa (hi); obtain ⟨Ao1, co1, eo1⟩ := Kd.R_slice O1.1; subst eo1; have p1 : 0 ≤ (t6 : Int) := of_decide_eq_true Z16; have q1 : t6 < (y1.length : Int) := of_decide_eq_true Z16; obtain ⟨ad1, e1, hx1⟩ := Kd.at_string (Kd.R_reads' O1.1).2.2 t6 p1 q1; cases e1; replace p1 := eq_true p1; replace q1 := eq_true q1))
    go_ret
    exact ⟨Z5, Z78 HI0, Z80 HI0, Z79⟩
   rw [if_neg sqF] at H
   obtain ⟨rfl, rfl⟩ := sqO2 H
   go_wp2_with (first | ((with_reducible refine sqc 74 rfl ?_); refine sqvs (some 26) func74 (args := #[.pointer (some ⟨g, 0, none⟩), .int .i64 a2]) (F28.c k1 g s0_0 x1001_1 a2 false t5 w0 _ (Z78 HI0) (Z80 HI0) A0.1) fun w7 hi hb hk => ?_; replace HK := sqa (KeepBut.trans Z79 hk (.inl rfl)); replace HB := sqa (hb); replace HI0 := sqa (hi)))
   go_ret
   exact ⟨Z5, Z78 HI0, Z80 HI0, Z79⟩

def F48.j0 : Nat → Int → List Int → Int → Int → Int → Option (Int × Int × Int)
 | 0, _, _, _, _, _ => none
 | k + 1, x1, x0, x2, x3, x4 => (F28.f k x0 x2 x1).bind fun bt0 => (if bt0.1 = true then ((some (([(⟨0, 0⟩ : S31), (⟨2, 4⟩ : S31), (⟨1, (-2)⟩ : S31), (⟨(-1), 0⟩ : S31), (⟨1000001, 1⟩ : S31)] : List (S31)) : List (S31))).bind fun y0 => ((F1.f k x0 bt0.2 5).bind fun bt1 => (if 0 ≤ bt1.1 then (if bt1.1 < (y0.length : Int) then (some ((rd_T31 y0 bt1.1).f0, (rd_T31 y0 bt1.1).f1, bt1.2)) else (none)) else (none)))) else (some (x3, x4, bt0.2)))
def F48.f (k : Nat) (s0_0 : List Int) (s0_1 : Int) (a1 : Int) : Option (Int × Int × Int) := (some (([4, 10, 50, 1000] : List Int) : List Int)).bind fun y0 => ((F1.f k s0_0 s0_1 4).bind fun bt0 => (if 0 ≤ bt0.1 then (if bt0.1 < (y0.length : Int) then ((F1.f k s0_0 bt0.2 (rd y0 bt0.1)).bind fun bt1 => ((F1.f k s0_0 bt1.2 (rd y0 bt0.1)).bind fun bt2 => ((F1.f k s0_0 bt2.2 (rd y0 bt0.1)).bind fun bt3 => ((F6.f k (wrap64 (bt1.1 - bt2.1)) bt3.1).bind fun bt4 => (if bt4.2.2 = true then (F48.j0 k a1 s0_0 bt3.2 bt4.1 bt4.2.1) else (F48.j0 k a1 s0_0 bt3.2 1 0)))))) else (none)) else (none)))
theorem F48.c (k : Nat) (g : Nat) (s0_0 : List Int) (s0_1 : Int) (a1 : Int) (r1 : Int) (r2 : Int) (r3 : Int) (w0 w : World) (hI : IsS131 w0 w g s0_0 s0_1) (hB : Below w0.heap.size w0 w) (H : F48.f k s0_0 s0_1 a1 = some (r1, r2, r3)) :
  Calls prog 113 #[.pointer (some ⟨g, 0, none⟩), .int .i64 a1] w fun e w' => e = .returned (.agg #[.int .i64 r1, .int .i64 r2]) ∧ IsS131 w0 w' g s0_0 r3 ∧ Below w0.heap.size w0 w' ∧ KeepBut w w' g none := by
 have hu31 := underlying31
 have HI0 := sqa hI
 have HK := sqa (KeepBut.refl w g none)
 have HL := sqa hB.size
 clear hI
 have HW0 := sqa hB.size
 have HB := sqa hB
 clear hB
 unfold F48.f at H
 obtain ⟨y0, hy0⟩ : ∃ y_ : List Int, y_ = (([4, 10, 50, 1000] : List Int)) := ⟨_, rfl⟩
 replace H : ((F1.f k s0_0 s0_1 4).bind fun bt0 => (if 0 ≤ bt0.1 then (if bt0.1 < (y0.length : Int) then ((F1.f k s0_0 bt0.2 (rd y0 bt0.1)).bind fun bt1 => ((F1.f k s0_0 bt1.2 (rd y0 bt0.1)).bind fun bt2 => ((F1.f k s0_0 bt2.2 (rd y0 bt0.1)).bind fun bt3 => ((F6.f k (wrap64 (bt1.1 - bt2.1)) bt3.1).bind fun bt4 => (if bt4.2.2 = true then (F48.j0 k a1 s0_0 bt3.2 bt4.1 bt4.2.1) else (F48.j0 k a1 s0_0 bt3.2 1 0)))))) else (none)) else (none))) = some (r1, r2, r3) := sqW hy0 H
 have Ny0 := sqa hy0
 clear hy0
 obtain ⟨⟨t0, t1⟩, A3, H⟩ := sqD H
 try dsimp only at H
 obtain ⟨c4b0, H⟩ := sqJ2 H
 obtain ⟨c5b0, H⟩ := sqJ2 H
 obtain ⟨⟨t2, t3⟩, A6, H⟩ := sqD H
 try dsimp only at H
 obtain ⟨⟨t4, t5⟩, A7, H⟩ := sqD H
 try dsimp only at H
 obtain ⟨⟨t6, t7⟩, A8, H⟩ := sqD H
 try dsimp only at H
 obtain ⟨⟨t8, t9, t10⟩, A9, H⟩ := sqD H
 try dsimp only at H
 have HC0 := sqa H
 clear H
 go_enter func113, ntmps113
 go_upto_if 28 with (first | ((with_reducible refine sqd 4 rfl ?_); refine sqBox (N := 4) (cs := #[.int .i64 0, .int .i64 0]) (t := 31) ?_; intro g0 hg w1 B0 hb; replace HB := sqa (below_step (Z80 HI0) hb); have GW0 := sqa ((Z172 : w.heap.size ≤ g0)); have E0 := sqa ((Nat.le_trans HW0.out (Z172 : w.heap.size ≤ g0) : w0.heap.size ≤ g0)); replace HK := sqa (KeepBut.trans Z79 (KeepBut.of_below hb g none) (.inl rfl)); have N0 := sqa ((Z81 HI0 : g ≠ g0)); have N1 := sqa ((Z82 HI0 : g0 ≠ g)); replace HI0 := sqa (IsS131.below (Z78 HI0) hb); clear hb hg) | ((with_reducible refine sqd 8 rfl ?_); refine Kd.R_lit (Kd.int .i64) _ 3 ?hg (N := 8) ?hd (xs := ([4, 10, 50, 1000] : List Int)) (inner := [.int .i64 4, .int .i64 10, .int .i64 50, .int .i64 1000]) (ok := fun _ => True) (okp := fun _ => True) ?hr ?hp (fun _ hk => hk) trivial (Below.refl _ _) (Nat.le_refl _) (by simp) ?_; (case hd => rfl); (case hg => rfl); (case hr => exact Z17); (case hp => exact (Reps.one (show Kd.M (Kd.int .i64) _ _ _ 4 [.int .i64 4] from rfl) (Reps.one (show Kd.M (Kd.int .i64) _ _ _ 10 [.int .i64 10] from rfl) (Reps.one (show Kd.M (Kd.int .i64) _ _ _ 50 [.int .i64 50] from rfl) (Reps.one (show Kd.M (Kd.int .i64) _ _ _ 1000 [.int .i64 1000] from rfl) (Reps.none _ _)))))); intro v0 w2 ho0 hb hg_ hnew_; clear hg_ hnew_; (first | rw [← Ny0.out] at ho0 | (simp only [Int.reduceToNat] at ho0; rw [← Ny0.out] at ho0)); have O0 := sqa (Kd.R_lower ho0 (keep_size (w := w) (g := g) (row := none) (Z83 GW0))); replace B0 := sqT B0 hb; replace HK := sqa (KeepBut.trans (Z83 GW0) (KeepBut.of_below hb g none) (.inl rfl)); replace HB := sqa (below_step (Z84 HI0 E0) hb); replace HI0 := sqa (IsS131.below (Z85 HI0 N0) hb); clear hb ho0) | ((with_reducible refine sqc 82 rfl ?_); refine sqvs (some 10) func82 (args := #[.pointer (some ⟨g, 0, none⟩), .int .i64 4]) (F1.c k g s0_0 s0_1 4 t0 t1 w0 _ (Z85 HI0 N0) (Z84 HI0 E0) A3.1) fun w3 hi hb hk => ?_; replace B0 := sqkb hk B0 N1; replace O0 := sqa (Kd.R_mono (Kd.R_keep (IsS131.apart (show IsS131 w0 _ g s0_0 s0_1 from by repeat (first | (with_reducible first | exact HI0.1 | apply IsS131.alloc | apply IsS131.drewN | apply IsS131.drew | apply IsS131.set_1 | refine IsS131.far ?_ N0.1 _) | exact HI0.1)) (sqR O0) (by decide)) hk (fun _ h => h.2)) (fun _ h => h.1)); replace HK := sqa (KeepBut.trans (Z83 GW0) hk (.inl rfl)); replace HB := sqa (hb); replace HI0 := sqa (hi); obtain ⟨Ao0, co0, eo0⟩ := Kd.R_slice O0.1; subst eo0; have p0 : 0 ≤ (t0 : Int) := of_decide_eq_true Z16; have q0 : t0 < (y0.length : Int) := of_decide_eq_true Z16; obtain ⟨ad0, e0, hx0⟩ := Kd.at_int (Kd.R_reads' O0.1).2.2 t0 p0 q0; cases e0; replace p0 := eq_true p0; replace q0 := eq_true q0) | ((with_reducible refine sqc 82 rfl ?_); refine sqvs (some 16) func82 (args := #[.pointer (some ⟨g, 0, none⟩), .int .i64 (rd y0 t0)]) (F1.c k g s0_0 t1 (rd y0 t0) t2 t3 w0 _ (Z85 HI0 N0) (Z84 HI0 E0) A6.1) fun w4 hi hb hk => ?_; replace B0 := sqkb hk B0 N1; replace O0 := sqa (Kd.R_mono (Kd.R_keep (IsS131.apart (show IsS131 w0 _ g s0_0 t1 from by repeat (first | (with_reducible first | exact HI0.1 | apply IsS131.alloc | apply IsS131.drewN | apply IsS131.drew | apply IsS131.set_1 | refine IsS131.far ?_ N0.1 _) | exact HI0.1)) (sqR O0) (by decide)) hk (fun _ h => h.2)) (fun _ h => h.1)); replace HK := sqa (KeepBut.trans (Z83 GW0) hk (.inl rfl)); replace HB := sqa (hb); replace HI0 := sqa (hi)) | ((with_reducible refine sqc 82 rfl ?_); refine sqvs (some 19) func82 (args := #[.pointer (some ⟨g, 0, none⟩), .int .i64 (rd y0 t0)]) (F1.c k g s0_0 t3 (rd y0 t0) t4 t5 w0 _ (Z85 HI0 N0) (Z84 HI0 E0) A7.1) fun w5 hi hb hk => ?_; replace B0 := sqkb hk B0 N1; replace O0 := sqa (Kd.R_mono (Kd.R_keep (IsS131.apart (show IsS131 w0 _ g s0_0 t3 from by repeat (first | (with_reducible first | exact HI0.1 | apply IsS131.alloc | apply IsS131.drewN | apply IsS131.drew | apply IsS131.set_1 | refine IsS131.far ?_ N0.1 _) | exact HI0.1)) (sqR O0) (by decide)) hk (fun _ h => h.2)) (fun _ h => h.1)); replace HK := sqa (KeepBut.trans (Z83 GW0) hk (.inl rfl)); replace HB := sqa (hb); replace HI0 := sqa (hi)) | ((with_reducible refine sqc 82 rfl ?_); refine sqvs (some 23) func82 (args := #[.pointer (some ⟨g, 0, none⟩), .int .i64 (rd y0 t0)]) (F1.c k g s0_0 t5 (rd y0 t0) t6 t7 w0 _ (Z85 HI0 N0) (Z84 HI0 E0) A8.1) fun w6 hi hb hk => ?_; replace B0 := sqkb hk B0 N1; replace O0 := sqa (Kd.R_mono (Kd.R_keep (IsS131.apart (show IsS131 w0 _ g s0_0 t5 from by repeat (first | (with_reducible first | exact HI0.1 | apply IsS131.alloc | apply IsS131.drewN | apply IsS131.drew | apply IsS131.set_1 | refine IsS131.far ?_ N0.1 _) | exact HI0.1)) (sqR O0) (by decide)) hk (fun _ h => h.2)) (fun _ h => h.1)); replace HK := sqa (KeepBut.trans (Z83 GW0) hk (.inl rfl)); replace HB := sqa (hb); replace HI0 := sqa (hi)) | ((with_reducible refine sqc 136 rfl ?_); refine sqv (some 24) func136 (F6.c k (wrap64 (t2 - t4)) t6 t8 t9 t10 _ A9.1) fun w7 hb => ?_; replace O0 := sqU O0 hb; replace B0 := sqT B0 hb; replace HK := sqa (KeepBut.trans (Z83 GW0) (KeepBut.of_below hb g none) (.inl rfl)); replace HB := sqa (below_step (Z84 HI0 E0) hb); replace HI0 := sqa (IsS131.below (Z85 HI0 N0) hb)) | ((with_reducible refine sqd 6 rfl ?_); refine sqBox (N := 6) (cs := #[.int .i64 0, .int .i64 0]) (t := 31) ?_; intro g1 hg w8 B2 hb; replace O0 := sqU O0 hb; replace HB := sqa (below_step (Z84 HI0 E0) hb); have GW1 := sqa ((Z173 GW0 : w.heap.size ≤ g1)); have E1 := sqa ((Nat.le_trans HW0.out (Z173 GW0 : w.heap.size ≤ g1) : w0.heap.size ≤ g1)); replace HK := sqa (KeepBut.trans (Z83 GW0) (KeepBut.of_below hb g none) (.inl rfl)); obtain ⟨N2, N3⟩ := sqM hg B0; replace B0 := sqT B0 hb; have N4 := sqa ((by rw [hg]; exact Nat.ne_of_lt (IsS131.lt (show IsS131 w0 _ g s0_0 t7 from by repeat (first | (with_reducible first | exact HI0.1 | apply IsS131.alloc | apply IsS131.drewN | apply IsS131.drew | apply IsS131.set_1 | refine IsS131.far ?_ N0.1 _) | exact HI0.1))) : g ≠ g1)); have N5 := sqa ((by rw [hg]; exact Nat.ne_of_gt (IsS131.lt (show IsS131 w0 _ g s0_0 t7 from by repeat (first | (with_reducible first | exact HI0.1 | apply IsS131.alloc | apply IsS131.drewN | apply IsS131.drew | apply IsS131.set_1 | refine IsS131.far ?_ N0.1 _) | exact HI0.1))) : g1 ≠ g)); replace HI0 := sqa (IsS131.below (Z85 HI0 N0) hb); clear hb hg; have := sqn4 N3 N2 N5 N4; have := sqY2 B2))
 (try simp only [Act.put, List.setIfInBounds_toArray, List.set_cons_zero, List.set_cons_succ])
 go_cut [] (fun wc => ∃ (kq : Nat) (x0 : Int) (x1 : Int), Aside0 (F48.j0 kq a1 s0_0 t7 x0 x1 = some (r1, r2, r3)) ∧ Aside0 (kq ≤ k) ∧ Aside0 (wc.heap[g0]? = some (.cells #[.int .i64 0, .int .i64 0] 31 (0, 0))) ∧ Aside0 (wc.heap[g1]? = some (.cells #[.int .i64 x0, .int .i64 x1] 31 (0, 0))) ∧ Aside0 (IsS131 w0 wc g s0_0 t7) ∧ Aside0 (KeepBut w wc g none) ∧ Aside0 (Below w0.heap.size w0 wc))
 case first =>
  have H := HC0.1
  clear HC0
  obtain rfl | rfl := sqt t10
  ·rw [if_pos rfl] at H
   have H' := sqa H
   clear H
   go_wp2
   go_meet
   case rel => exact ⟨_, (t8), (t9), H', ⟨Z11⟩, ⟨Z9 N2 B0⟩, ⟨by refine sqPut (cs := #[.int .i64 t8, .int .i64 0]) ?_ 1; refine sqPut (cs := #[.int .i64 0, .int .i64 0]) ?_ 0; exact sqK B2⟩, ⟨Z86 HI0 N0 N4⟩, ⟨Z87 GW0 GW1⟩, ⟨Z88 HI0 E0 E1⟩⟩
  rw [if_neg sqF] at H
  have H' := sqa H
  clear H
  have := sqn4 N3 N2 N5 N4
  have := sqY2 B2
  go_wp2
  go_meet
  case rel => exact ⟨_, (1), (0), H', ⟨Z11⟩, ⟨by refine sqFar ?_ N2; refine sqFar ?_ N2; refine sqFar ?_ N2; refine sqFar ?_ N2; exact sqK B0⟩, ⟨by refine sqPut (cs := #[.int .i64 1, .int .i64 t9]) ?_ 1; refine sqPut (cs := #[.int .i64 t8, .int .i64 t9]) ?_ 0; refine sqPut (cs := #[.int .i64 t8, .int .i64 0]) ?_ 1; refine sqPut (cs := #[.int .i64 0, .int .i64 0]) ?_ 0; exact sqK B2⟩, ⟨Z86 HI0 N0 N4⟩, ⟨Z87 GW0 GW1⟩, ⟨Z88 HI0 E0 E1⟩⟩
 case rest =>
  clear HC0
  obtain ⟨kq, x0, x1, HA, HJ9, B0, B2, HI0, HK, HB⟩ := hcut
  cases kq with
  | zero => exact absurd HA.out (by simp [F48.j0])
  | succ kj9 =>
   have H := HA.out
   clear HA
   simp only [F48.j0] at H
   obtain ⟨⟨t11, t12⟩, A0, H⟩ := sqD H
   try dsimp only at H
   obtain rfl | rfl := sqt t11
   ·rw [if_pos rfl] at H
    obtain ⟨y1, hy1⟩ : ∃ y_ : List (S31), y_ = (([(⟨0, 0⟩ : S31), (⟨2, 4⟩ : S31), (⟨1, (-2)⟩ : S31), (⟨(-1), 0⟩ : S31), (⟨1000001, 1⟩ : S31)] : List (S31))) := ⟨_, rfl⟩
    replace H : ((F1.f kj9 s0_0 t12 5).bind fun bt5 => (if 0 ≤ bt5.1 then (if bt5.1 < (y1.length : Int) then (some ((rd_T31 y1 bt5.1).f0, (rd_T31 y1 bt5.1).f1, bt5.2)) else (none)) else (none))) = some (r1, r2, r3) := sqW hy1 H
    have Ny1 := sqa hy1
    clear hy1
    obtain ⟨⟨t13, t14⟩, A1, H⟩ := sqD H
    try dsimp only at H
    obtain ⟨c6, H⟩ := sqJ2 H
    obtain ⟨c8, H⟩ := sqJ2 H
    obtain ⟨rfl, rfl, rfl⟩ := sqO3 H
    go_wp2_with (first | ((with_reducible refine sqc 74 rfl ?_); refine sqvs (some 32) func74 (args := #[.pointer (some ⟨g, 0, none⟩), .int .i64 a1]) (F28.c kj9 g s0_0 t7 a1 true t12 w0 _ (Z86 HI0 N0 N4) (Z88 HI0 E0 E1) A0.1) fun w9 hi hb hk => ?_; replace B0 := sqkb hk B0 N1; replace B2 := sqkb hk B2 N5; replace HK := sqa (KeepBut.trans (Z87 GW0 GW1) hk (.inl rfl)); replace HB := sqa (hb); replace HI0 := sqa (hi)) | ((with_reducible refine sqd 38 rfl ?_); refine Kd.R_lit k31 _ 31 ?hg (N := 38) ?hd (xs := ([(⟨0, 0⟩ : S31), (⟨2, 4⟩ : S31), (⟨1, (-2)⟩ : S31), (⟨(-1), 0⟩ : S31), (⟨1000001, 1⟩ : S31)] : List (S31))) (inner := [.int .i64 0, .int .i64 0, .int .i64 2, .int .i64 4, .int .i64 1, .int .i64 (-2), .int .i64 (-1), .int .i64 0, .int .i64 1000001, .int .i64 1]) (ok := fun _ => True) (okp := fun _ => True) ?hr ?hp (fun _ hk => hk) trivial (Below.refl _ _) (Nat.le_refl _) (by simp) ?_; (case hd => rfl); (case hg => rfl); (case hr => exact Z17); (case hp => exact (Reps.c2 (show Kd.M k31 _ _ _ (⟨0, 0⟩ : S31) [.int .i64 0, .int .i64 0] from (k31_mkM _ _ _ (⟨0, 0⟩ : S31) )) (Reps.c2 (show Kd.M k31 _ _ _ (⟨2, 4⟩ : S31) [.int .i64 2, .int .i64 4] from (k31_mkM _ _ _ (⟨2, 4⟩ : S31) )) (Reps.c2 (show Kd.M k31 _ _ _ (⟨1, (-2)⟩ : S31) [.int .i64 1, .int .i64 (-2)] from (k31_mkM _ _ _ (⟨1, (-2)⟩ : S31) )) (Reps.c2 (show Kd.M k31 _ _ _ (⟨(-1), 0⟩ : S31) [.int .i64 (-1), .int .i64 0] from (k31_mkM _ _ _ (⟨(-1), 0⟩ : S31) )) (Reps.c2 (show Kd.M k31 _ _ _ (⟨1000001, 1⟩ : S31) [.int .i64 1000001, .int .i64 1] from (k31_mkM _ _ _ (⟨1000001, 1⟩ : S31) )) (Reps.none _ _))))))); intro v1 w34 ho1 hb hg_ hnew_; clear hg_ hnew_; (first | rw [← Ny1.out] at ho1 | (simp only [Int.reduceToNat] at ho1; rw [← Ny1.out] at ho1)); have O1 := sqa (Kd.R_lower (Kd.R_newB (Kd.R_newB ho1 (sqK B0)) (sqK B2)) (keep_size (w := w) (g := g) (row := none) (Z87 GW0 GW1))); obtain ⟨B0, B2⟩ := sqT2 hb B0 B2; replace HK := sqa (KeepBut.trans (Z87 GW0 GW1) (KeepBut.of_below hb g none) (.inl rfl)); replace HB := sqa (below_step (Z88 HI0 E0 E1) hb); replace HI0 := sqa (IsS131.below (Z86 HI0 N0 N4) hb); clear hb ho1) | ((with_reducible refine sqc 82 rfl ?_); refine sqvs (some 40) func82 (args := #[.pointer (some ⟨g, 0, none⟩), .int .i64 5]) (F1.c kj9 g s0_0 t12 5 t13 t14 w0 _ (Z86 HI0 N0 N4) (Z88 HI0 E0 E1) A1.1) fun w36 hi hb hk => ?_; replace B0 := sqkb hk B0 N1; replace B2 := sqkb hk B2 N5; replace O1 := sqa (Kd.R_mono (Kd.R_keep (IsS131.apart (show IsS131 w0 _ g s0_0 t12 from by repeat (first | (with_reducible first | exact HI0.1 | apply IsS131.alloc | apply IsS131.drewN | apply IsS131.drew | apply IsS131.set_1 | refine IsS131.far ?_ N0.1 _ | refine IsS131.far ?_ N4.1 _) | exact HI0.1)) (sqR O1) (by decide)) hk (fun _ h => h.2)) (fun _ h => h.1)); replace HK := sqa (KeepBut.trans (Z87 GW0 GW1) hk (.inl rfl)); replace HB := sqa (hb); replace HI0 := sqa (hi); obtain ⟨Ao1, co1, eo1⟩ := Kd.R_slice O1.1; subst eo1; have p1 : 0 ≤ (t13 : Int) := of_decide_eq_true Z16; have q1 : t13 < (y1.length : Int) := of_decide_eq_true Z16; obtain ⟨ad1, e1, hx1, hx2⟩ := at_T31 (Kd.R_reads' O1.1).2.2 t13 p1 q1; cases e1; replace p1 := eq_true p1; replace q1 := eq_true q1; have := sqn4 N2 N3 N1 N0; have := sqY2 B0))
    refine sqEr g0 31 #[.int .i64 ((rd_T31 y1 t13).f0), .int .i64 ((rd_T31 y1 t13).f1)] (by refine sqPut (cs := #[.int .i64 ((rd_T31 y1 t13).f0), .int .i64 0]) ?_ 1; refine sqPut (cs := #[.int .i64 0, .int .i64 0]) ?_ 0; exact sqK B0) underlying31 ?_
    exact ⟨Z5, Z86 HI0 N0 N4, Z88 HI0 E0 E1, Z87 GW0 GW1⟩
   rw [if_neg sqF] at H
   obtain ⟨rfl, rfl, rfl⟩ := sqO3 H
   go_wp2_with (first | ((with_reducible refine sqc 74 rfl ?_); refine sqvs (some 32) func74 (args := #[.pointer (some ⟨g, 0, none⟩), .int .i64 a1]) (F28.c kj9 g s0_0 t7 a1 false t12 w0 _ (Z86 HI0 N0 N4) (Z88 HI0 E0 E1) A0.1) fun w41 hi hb hk => ?_; replace B0 := sqkb hk B0 N1; replace B2 := sqkb hk B2 N5; replace HK := sqa (KeepBut.trans (Z87 GW0 GW1) hk (.inl rfl)); replace HB := sqa (hb); replace HI0 := sqa (hi); have := sqn4 N3 N2 N5 N4; have := sqY2 B2; have := sqn2 N1 N0; have := sqY2 B0))
   refine sqEr g0 31 #[.int .i64 x0, .int .i64 x1] (by refine sqPut (cs := #[.int .i64 x0, .int .i64 0]) ?_ 1; refine sqPut (cs := #[.int .i64 0, .int .i64 0]) ?_ 0; exact sqK B0) underlying31 ?_
   exact ⟨Z5, Z86 HI0 N0 N4, Z88 HI0 E0 E1, Z87 GW0 GW1⟩

def F87.f (k : Nat) (s0_0 : List Int) (s0_1 : Int) : Option (Int × Int × Int) := (F28.f k s0_0 s0_1 9).bind fun bt0 => (if bt0.1 = true then ((F48.f k s0_0 bt0.2 3).bind fun bt1 => (some (bt1.1, bt1.2.1, bt1.2.2))) else ((F1.f k s0_0 bt0.2 13).bind fun bt2 => ((F1.f k s0_0 bt2.2 13).bind fun bt3 => ((F1.f k s0_0 bt3.2 13).bind fun bt4 => ((F6.f k (wrap64 (bt2.1 - bt3.1)) bt4.1).bind fun bt5 => (if bt5.2.2 = true then (some (bt5.1, bt5.2.1, bt4.2)) else (some (1, 0, bt4.2))))))))
theorem F87.c (k : Nat) (g : Nat) (s0_0 : List Int) (s0_1 : Int) (r1 : Int) (r2 : Int) (r3 : Int) (w0 w : World) (hI : IsS131 w0 w g s0_0 s0_1) (hB : Below w0.heap.size w0 w) (H : F87.f k s0_0 s0_1 = some (r1, r2, r3)) :
  Calls prog 115 #[.pointer (some ⟨g, 0, none⟩)] w fun e w' => e = .returned (.agg #[.int .i64 r1, .int .i64 r2]) ∧ IsS131 w0 w' g s0_0 r3 ∧ Below w0.heap.size w0 w' ∧ KeepBut w w' g none := by
 have hu31 := underlying31
 have HI0 := sqa hI
 have HK := sqa (KeepBut.refl w g none)
 have HL := sqa hB.size
 clear hI
 have HW0 := sqa hB.size
 have HB := sqa hB
 clear hB
 unfold F87.f at H
 obtain ⟨⟨t0, t1⟩, A2, H⟩ := sqD H
 try dsimp only at H
 obtain rfl | rfl := sqt t0
 ·rw [if_pos rfl] at H
  obtain ⟨⟨t2, t3, t4⟩, A4, H⟩ := sqD H
  try dsimp only at H
  obtain ⟨rfl, rfl, rfl⟩ := sqO3 H
  go_enter func115, ntmps115
  go_wp2_with (first | ((with_reducible refine sqd 2 rfl ?_); refine sqBox (N := 2) (cs := #[.int .i64 0, .int .i64 0]) (t := 31) ?_; intro g0 hg w5 B0 hb; replace HB := sqa (below_step (Z80 HI0) hb); have GW0 := sqa ((Z172 : w.heap.size ≤ g0)); have E0 := sqa ((Nat.le_trans HW0.out (Z172 : w.heap.size ≤ g0) : w0.heap.size ≤ g0)); replace HK := sqa (KeepBut.trans Z79 (KeepBut.of_below hb g none) (.inl rfl)); have N0 := sqa ((Z81 HI0 : g ≠ g0)); have N1 := sqa ((Z82 HI0 : g0 ≠ g)); replace HI0 := sqa (IsS131.below (Z78 HI0) hb); clear hb hg) | ((with_reducible refine sqc 74 rfl ?_); refine sqvs (some 6) func74 (args := #[.pointer (some ⟨g, 0, none⟩), .int .i64 9]) (F28.c k g s0_0 s0_1 9 true t1 w0 _ (Z85 HI0 N0) (Z84 HI0 E0) A2.1) fun w6 hi hb hk => ?_; replace B0 := sqkb hk B0 N1; replace HK := sqa (KeepBut.trans (Z83 GW0) hk (.inl rfl)); replace HB := sqa (hb); replace HI0 := sqa (hi)) | ((with_reducible refine sqc 113 rfl ?_); refine sqvs (some 8) func113 (args := #[.pointer (some ⟨g, 0, none⟩), .int .i64 3]) (F48.c k g s0_0 t1 3 t2 t3 t4 w0 _ (Z85 HI0 N0) (Z84 HI0 E0) A4.1) fun w7 hi hb hk => ?_; replace B0 := sqkb hk B0 N1; replace HK := sqa (KeepBut.trans (Z83 GW0) hk (.inl rfl)); replace HB := sqa (hb); replace HI0 := sqa (hi); have := sqn2 N1 N0; have := sqY2 B0))
  refine sqEr g0 31 #[.int .i64 t2, .int .i64 t3] (by refine sqPut (cs := #[.int .i64 t2, .int .i64 0]) ?_ 1; refine sqPut (cs := #[.int .i64 0, .int .i64 0]) ?_ 0; exact sqK B0) underlying31 ?_
  exact ⟨Z5, Z85 HI0 N0, Z84 HI0 E0, Z83 GW0⟩
 rw [if_neg sqF] at H
 obtain ⟨⟨t5, t6⟩, A0, H⟩ := sqD H
 try dsimp only at H
 obtain ⟨⟨t7, t8⟩, A1, H⟩ := sqD H
 try dsimp only at H
 obtain ⟨⟨t9, t780⟩, A3, H⟩ := sqD H
 try dsimp only at H
 obtain ⟨⟨t10, t11, t12⟩, A5, H⟩ := sqD H
 try dsimp only at H
 obtain rfl | rfl := sqt t12
 ·rw [if_pos rfl] at H
  obtain ⟨rfl, rfl, rfl⟩ := sqO3 H
  go_enter func115, ntmps115
  go_wp2_with (first | ((with_reducible refine sqd 2 rfl ?_); refine sqBox (N := 2) (cs := #[.int .i64 0, .int .i64 0]) (t := 31) ?_; intro g0 hg w1 B0 hb; replace HB := sqa (below_step (Z80 HI0) hb); have GW0 := sqa ((Z172 : w.heap.size ≤ g0)); have E0 := sqa ((Nat.le_trans HW0.out (Z172 : w.heap.size ≤ g0) : w0.heap.size ≤ g0)); replace HK := sqa (KeepBut.trans Z79 (KeepBut.of_below hb g none) (.inl rfl)); have N0 := sqa ((Z81 HI0 : g ≠ g0)); have N1 := sqa ((Z82 HI0 : g0 ≠ g)); replace HI0 := sqa (IsS131.below (Z78 HI0) hb); clear hb hg) | ((with_reducible refine sqc 74 rfl ?_); refine sqvs (some 6) func74 (args := #[.pointer (some ⟨g, 0, none⟩), .int .i64 9]) (F28.c k g s0_0 s0_1 9 false t1 w0 _ (Z85 HI0 N0) (Z84 HI0 E0) A2.1) fun w2 hi hb hk => ?_; replace B0 := sqkb hk B0 N1; replace HK := sqa (KeepBut.trans (Z83 GW0) hk (.inl rfl)); replace HB := sqa (hb); replace HI0 := sqa (hi)) | ((with_reducible refine sqc 82 rfl ?_); refine sqvs (some 11) func82 (args := #[.pointer (some ⟨g, 0, none⟩), .int .i64 13]) (F1.c k g s0_0 t1 13 t5 t6 w0 _ (Z85 HI0 N0) (Z84 HI0 E0) A0.1) fun w3 hi hb hk => ?_; replace B0 := sqkb hk B0 N1; replace HK := sqa (KeepBut.trans (Z83 GW0) hk (.inl rfl)); replace HB := sqa (hb); replace HI0 := sqa (hi)) | ((with_reducible refine sqc 82 rfl ?_); refine sqvs (some 13) func82 (args := #[.pointer (some ⟨g, 0, none⟩), .int .i64 13]) (F1.c k g s0_0 t6 13 t7 t8 w0 _ (Z85 HI0 N0) (Z84 HI0 E0) A1.1) fun w4 hi hb hk => ?_; replace B0 := sqkb hk B0 N1; replace HK := sqa (KeepBut.trans (Z83 GW0) hk (.inl rfl)); replace HB := sqa (hb); replace HI0 := sqa (hi)) | ((with_reducible refine sqc 82 rfl ?_); refine sqvs (some 16) func82 (args := #[.pointer (some ⟨g, 0, none⟩), .int .i64 13]) (F1.c k g s0_0 t8 13 t9 t780 w0 _ (Z85 HI0 N0) (Z84 HI0 E0) A3.1) fun w8 hi hb hk => ?_; replace B0 := sqkb hk B0 N1; replace HK := sqa (KeepBut.trans (Z83 GW0) hk (.inl rfl)); replace HB := sqa (hb); replace HI0 := sqa (hi)) | ((with_reducible refine sqc 136 rfl ?_); refine sqv (some 17) func136 (F6.c k (wrap64 (t5 - t7)) t9 t10 t11 true _ A5.1) fun w9 hb => ?_; replace B0 := sqT B0 hb; replace HK := sqa (KeepBut.trans (Z83 GW0) (KeepBut.of_below hb g none) (.inl rfl)); replace HB := sqa (below_step (Z84 HI0 E0) hb); replace HI0 := sqa (IsS131.below (Z85 HI0 N0) hb)) | ((with_reducible refine sqd 3 rfl ?_); refine sqBox (N := 3) (cs := #[.int .i64 0, .int .i64 0]) (t := 31) ?_; intro g1 hg w21 B2 hb; replace HB := sqa (below_step (Z84 HI0 E0) hb); have GW1 := sqa ((Z173 GW0 : w.heap.size ≤ g1)); have E1 := sqa ((Nat.le_trans HW0.out (Z173 GW0 : w.heap.size ≤ g1) : w0.heap.size ≤ g1)); replace HK := sqa (KeepBut.trans (Z83 GW0) (KeepBut.of_below hb g none) (.inl rfl)); obtain ⟨N2, N3⟩ := sqM hg B0; replace B0 := sqT B0 hb; have N4 := sqa ((Z89 HI0 N0 : g ≠ g1)); have N5 := sqa ((Z90 HI0 N0 : g1 ≠ g)); replace HI0 := sqa (IsS131.below (Z85 HI0 N0) hb); clear hb hg; have := sqn4 N3 N2 N5 N4; have := sqY2 B2; have := sqn2 N1 N0; have := sqY2 B0))
  refine sqEr g0 31 #[.int .i64 t10, .int .i64 t11] (by refine sqPut (cs := #[.int .i64 t10, .int .i64 0]) ?_ 1; refine sqPut (cs := #[.int .i64 0, .int .i64 0]) ?_ 0; refine sqFar ?_ N2; refine sqFar ?_ N2; exact sqK B0) underlying31 ?_
  exact ⟨Z5, Z86 HI0 N0 N4, Z88 HI0 E0 E1, Z87 GW0 GW1⟩
 rw [if_neg sqF] at H
 obtain ⟨rfl, rfl, rfl⟩ := sqO3 H
 go_enter func115, ntmps115
 go_wp2_with (first | ((with_reducible refine sqd 2 rfl ?_); refine sqBox (N := 2) (cs := #[.int .i64 0, .int .i64 0]) (t := 31) ?_; intro g0 hg w27 B0 hb; replace HB := sqa (below_step (Z80 HI0) hb); have GW0 := sqa ((Z172 : w.heap.size ≤ g0)); have E0 := sqa ((Nat.le_trans HW0.out (Z172 : w.heap.size ≤ g0) : w0.heap.size ≤ g0)); replace HK := sqa (KeepBut.trans Z79 (KeepBut.of_below hb g none) (.inl rfl)); have N0 := sqa ((Z81 HI0 : g ≠ g0)); have N1 := sqa ((Z82 HI0 : g0 ≠ g)); replace HI0 := sqa (IsS131.below (Z78 HI0) hb); clear hb hg) | ((with_reducible refine sqc 74 rfl ?_); refine sqvs (some 6) func74 (args := #[.pointer (some ⟨g, 0, none⟩), .int .i64 9]) (F28.c k g s0_0 s0_1 9 false t1 w0 _ (Z85 HI0 N0) (Z84 HI0 E0) A2.1) fun w28 hi hb hk => ?_; replace B0 := sqkb hk B0 N1; replace HK := sqa (KeepBut.trans (Z83 GW0) hk (.inl rfl)); replace HB := sqa (hb); replace HI0 := sqa (hi)) | ((with_reducible refine sqc 82 rfl ?_); refine sqvs (some 11) func82 (args := #[.pointer (some ⟨g, 0, none⟩), .int .i64 13]) (F1.c k g s0_0 t1 13 t5 t6 w0 _ (Z85 HI0 N0) (Z84 HI0 E0) A0.1) fun w29 hi hb hk => ?_; replace B0 := sqkb hk B0 N1; replace HK := sqa (KeepBut.trans (Z83 GW0) hk (.inl rfl)); replace HB := sqa (hb); replace HI0 := sqa (hi)) | ((with_reducible refine sqc 82 rfl ?_); refine sqvs (some 13) func82 (args := #[.pointer (some ⟨g, 0, none⟩), .int .i64 13]) (F1.c k g s0_0 t6 13 t7 t8 w0 _ (Z85 HI0 N0) (Z84 HI0 E0) A1.1) fun w30 hi hb hk => ?_; replace B0 := sqkb hk B0 N1; replace HK := sqa (KeepBut.trans (Z83 GW0) hk (.inl rfl)); replace HB := sqa (hb); replace HI0 := sqa (hi)) | ((with_reducible refine sqc 82 rfl ?_); refine sqvs (some 16) func82 (args := #[.pointer (some ⟨g, 0, none⟩), .int .i64 13]) (F1.c k g s0_0 t8 13 t9 t780 w0 _ (Z85 HI0 N0) (Z84 HI0 E0) A3.1) fun w31 hi hb hk => ?_; replace B0 := sqkb hk B0 N1; replace HK := sqa (KeepBut.trans (Z83 GW0) hk (.inl rfl)); replace HB := sqa (hb); replace HI0 := sqa (hi)) | ((with_reducible refine sqc 136 rfl ?_); refine sqv (some 17) func136 (F6.c k (wrap64 (t5 - t7)) t9 t10 t11 false _ A5.1) fun w32 hb => ?_; replace B0 := sqT B0 hb; replace HK := sqa (KeepBut.trans (Z83 GW0) (KeepBut.of_below hb g none) (.inl rfl)); replace HB := sqa (below_step (Z84 HI0 E0) hb); replace HI0 := sqa (IsS131.below (Z85 HI0 N0) hb)) | ((with_reducible refine sqd 3 rfl ?_); refine sqBox (N := 3) (cs := #[.int .i64 0, .int .i64 0]) (t := 31) ?_; intro g1 hg w33 B2 hb; replace HB := sqa (below_step (Z84 HI0 E0) hb); have GW1 := sqa ((Z173 GW0 : w.heap.size ≤ g1)); have E1 := sqa ((Nat.le_trans HW0.out (Z173 GW0 : w.heap.size ≤ g1) : w0.heap.size ≤ g1)); replace HK := sqa (KeepBut.trans (Z83 GW0) (KeepBut.of_below hb g none) (.inl rfl)); obtain ⟨N2, N3⟩ := sqM hg B0; replace B0 := sqT B0 hb; have N4 := sqa ((Z89 HI0 N0 : g ≠ g1)); have N5 := sqa ((Z90 HI0 N0 : g1 ≠ g)); replace HI0 := sqa (IsS131.below (Z85 HI0 N0) hb); clear hb hg; have := sqn4 N3 N2 N5 N4; have := sqY2 B2; have := sqn2 N1 N0; have := sqY2 B0))
 refine sqEr g0 31 #[.int .i64 1, .int .i64 0] (by refine sqPut (cs := #[.int .i64 1, .int .i64 0]) ?_ 1; refine sqPut (cs := #[.int .i64 0, .int .i64 0]) ?_ 0; refine sqFar ?_ N2; refine sqFar ?_ N2; exact sqK B0) underlying31 ?_
 exact ⟨Z5, Z86 HI0 N0 N4, Z88 HI0 E0 E1, Z87 GW0 GW1⟩

end Go.Proofs.YtofmlbgfcohhoaaGreatDoor.PFnDeskSay
