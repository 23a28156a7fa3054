import Derived.Test.YtofmlbgfcohhoaaGreatDoorPFnDeskSayx16
import Derived.Test.YtofmlbgfcohhoaaGreatDoorPFnDeskSayx25
set_option maxHeartbeats 8000000
set_option maxRecDepth 100000
namespace Go.Proofs.YtofmlbgfcohhoaaGreatDoor.PFnDeskSay
open Go.RowKit Go.Proofs.YtofmlbgfcohhoaaGreatDoorW.PrintWords Go.Proofs.YtofmlbgfcohhoaaGreatDoorW.PrintLast Go.Proofs.YtofmlbgfcohhoaaGreatDoorW.PrintMore Go.Proofs.YtofmlbgfcohhoaaGreatDoor.Lib Go.Proofs.Tryz
attribute [local go_sem] max2_int min2_int max_two min_two max_three min_three max_four min_four   -- for this text's walks alone
set_option linter.unusedVariables false
set_option linter.unusedSimpArgs false

def F17.j0 : Nat → List Int → Int → Int → ByteArray → Option (Int × ByteArray × Int)
 | 0, _, _, _, _ => none
 | k + 1, x0, x1, x2, x3 => (F28.f k x0 x1 40).bind fun bt0 => (if bt0.1 = true then (if x3.size + 1 ≤ 9223372036854775807 then (some (x2, x3 ++ (⟨#[120]⟩ : ByteArray), bt0.2)) else (none)) else (some (x2, x3, bt0.2)))
def F17.f (k : Nat) (s0_0 : List Int) (s0_1 : Int) : Option (Int × ByteArray × Int) := (some (([0, 0, 0, 1, 1, 2, 3, 4] : List Int) : List Int)).bind fun y786 => ((F1.f k s0_0 s0_1 8).bind fun bt0 => (if 0 ≤ bt0.1 then (if bt0.1 < (y786.length : Int) then ((F1.f k s0_0 bt0.2 60).bind fun bt1 => (if (wrap64 ((rd y786 bt0.1) + (wrap64 ((wrap64 (Int.tdiv bt1.1 59)) * 5)))) = 0 then ((F52.f k s0_0 bt1.2 6 20).bind fun bt2 => (F17.j0 k s0_0 bt2.2 (wrap64 ((rd y786 bt0.1) + (wrap64 ((wrap64 (Int.tdiv bt1.1 59)) * 5)))) bt2.1)) else (if (wrap64 ((rd y786 bt0.1) + (wrap64 ((wrap64 (Int.tdiv bt1.1 59)) * 5)))) = 1 then ((F87.f k s0_0 bt1.2).bind fun bt3 => ((F19.f k bt3.1 bt3.2.1).bind fun t0 => (F17.j0 k s0_0 bt3.2.2 (wrap64 ((rd y786 bt0.1) + (wrap64 ((wrap64 (Int.tdiv bt1.1 59)) * 5)))) t0))) else (F17.j0 k s0_0 bt1.2 (wrap64 ((rd y786 bt0.1) + (wrap64 ((wrap64 (Int.tdiv bt1.1 59)) * 5)))) (⟨#[]⟩ : ByteArray))))) else (none)) else (none)))
def F17.T1 : Bool × List (List Nat × List Nat) := (true, [([], []), ([], []), ([1], [1]), ([0, 2], [0, 2]), ([3], [3]), ([], []), ([5, 2], [5]), ([6], [6]), ([7], [7]), ([4, 8], [4, 8]), ([9], [9]), ([], []), ([11, 10, 6, 0, 1, 2, 3, 4, 5, 6, 7, 8, 9, 10, 11], [10, 11])])
def F17.B1 : List Nat := [0, 0, 2, 7, 15, 0, 38, 102, 230, 511, 1023, 0, 4095]
theorem F17.tab1 : rtab .any (opsOf f68 1) = F17.T1 := by kernel_rfl
theorem F17.bits1 : waitsOk F17.T1.2 F17.B1 = true := by kernel_rfl
theorem F17.c (k : Nat) (g : Nat) (s0_0 : List Int) (s0_1 : Int) (r1 : Int) (r2 : ByteArray) (r3 : Int) (w0 w : World) (hI : IsS131 w0 w g s0_0 s0_1) (hB : Below w0.heap.size w0 w) (H : F17.f k s0_0 s0_1 = some (r1, r2, r3)) :
  Calls prog 68 #[.pointer (some ⟨g, 0, none⟩)] w fun e w' => e = .returned (.agg #[.int .i64 r1, .string r2]) ∧ IsS131 w0 w' g s0_0 r3 ∧ Below w0.heap.size w0 w' ∧ KeepBut w w' g none := by
 have hu38 := underlying38
 have HI0 := sqa hI
 have HK := sqa (KeepBut.refl w g none)
 have HL := sqa hB.size
 clear hI
 have HW0 := sqa hB.size
 have HB := sqa hB
 clear hB
 unfold F17.f at H
 obtain ⟨y786, hy0⟩ : ∃ y_ : List Int, y_ = (([0, 0, 0, 1, 1, 2, 3, 4] : List Int)) := ⟨_, rfl⟩
 replace H : ((F1.f k s0_0 s0_1 8).bind fun bt0 => (if 0 ≤ bt0.1 then (if bt0.1 < (y786.length : Int) then ((F1.f k s0_0 bt0.2 60).bind fun bt1 => (if (wrap64 ((rd y786 bt0.1) + (wrap64 ((wrap64 (Int.tdiv bt1.1 59)) * 5)))) = 0 then ((F52.f k s0_0 bt1.2 6 20).bind fun bt2 => (F17.j0 k s0_0 bt2.2 (wrap64 ((rd y786 bt0.1) + (wrap64 ((wrap64 (Int.tdiv bt1.1 59)) * 5)))) bt2.1)) else (if (wrap64 ((rd y786 bt0.1) + (wrap64 ((wrap64 (Int.tdiv bt1.1 59)) * 5)))) = 1 then ((F87.f k s0_0 bt1.2).bind fun bt3 => ((F19.f k bt3.1 bt3.2.1).bind fun t0 => (F17.j0 k s0_0 bt3.2.2 (wrap64 ((rd y786 bt0.1) + (wrap64 ((wrap64 (Int.tdiv bt1.1 59)) * 5)))) t0))) else (F17.j0 k s0_0 bt1.2 (wrap64 ((rd y786 bt0.1) + (wrap64 ((wrap64 (Int.tdiv bt1.1 59)) * 5)))) (⟨#[]⟩ : ByteArray))))) else (none)) else (none))) = some (r1, r2, r3) := sqW hy0 H
 have Ny0 := sqa hy0
 clear hy0
 obtain ⟨⟨t789, t790⟩, A2, H⟩ := sqD H
 try dsimp only at H
 obtain ⟨c3b0, H⟩ := sqJ2 H
 obtain ⟨c4b0, H⟩ := sqJ2 H
 obtain ⟨⟨t792, t793⟩, A5, H⟩ := sqD H
 try dsimp only at H
 have HC6 := sqa H
 clear H
 go_enter func68, ntmps68
 try go_wp2_with (first | ((with_reducible refine sqd 2 rfl ?_); refine sqBox (N := 2) (cs := #[.int .i64 0, .string (⟨#[]⟩ : ByteArray)]) (t := 38) ?_; intro g0 hg w7 B0 hb; replace HB := sqa (below_step (Z80 HI0) hb); have GW0 := sqa ((Z172 : w.heap.size ≤ g0)); have E0 := sqa ((Nat.le_trans HW0.out (Z172 : w.heap.size ≤ g0) : w0.heap.size ≤ g0)); replace HK := sqa (KeepBut.trans Z79 (KeepBut.of_below hb g none) (.inl rfl)); have N0 := sqa ((Z81 HI0 : g ≠ g0)); have N1 := sqa ((Z82 HI0 : g0 ≠ g)); replace HI0 := sqa (IsS131.below (Z78 HI0) hb); clear hb hg))
 have pi0 : (0 ≤ (t789 : Int)) = True := eq_true (of_decide_eq_true Z16)
 have qi0 : (t789 < (y786.length : Int)) = True := eq_true (of_decide_eq_true Z16)
 replace B0 := sqa (blk_drew B0.1)
 replace HI0 := sqa (IsS131.drew HI0.1)
 replace HK := sqa (keep_drew HK.out)
 replace HB := sqa (below_drew1 HB.1)
 refine start_ (n := 13) (S := fun w' => True) (ds := []) #[false, false, false, false, false, false, false, false, false, false, false, false, false] (by kernel_rfl) rfl rfl trivial (fun hHeld => ?_); refine with_tabW F17.tab1 F17.bits1 (fun HT_ HW_ => ?_)
 generalize w7.drew = w8 at B0 HI0 HK HB hHeld ⊢
 refine sqP 1 (some 5) (h := ?_)
 refine sqP 5 (some 9) (h := ?_)
 refine join_ (σ := Value × Addr × Nat) 1 #[true, true, true, true, true, true, true, true, true, true, true, true, false] (fun s_ => [(4, s_.1), (6, .int .i64 t789), (8, .int .i64 (rd y786 t789)), (10, .int .i64 t792), (3, .pointer (some ⟨s_.2.2, 0, none⟩)), (7, .pointer (some (s_.2.1.add (t789).toNat))), (11, .int .i64 (wrap64 (Int.tdiv t792 59))), (12, .int .i64 (wrap64 ((wrap64 (Int.tdiv t792 59)) * 5))), (13, .int .i64 (wrap64 ((rd y786 t789) + (wrap64 ((wrap64 (Int.tdiv t792 59)) * 5))))), (14, .agg #[.int .i64 (wrap64 ((rd y786 t789) + (wrap64 ((wrap64 (Int.tdiv t792 59)) * 5)))), .string (⟨#[]⟩ : ByteArray)])]) (fun s_ w' => (Kd.R (Kd.int .i64) 3 w' w.heap.size (fun _ => True) s_.1 y786) ∧ (∃ c_, (s_.1 : Value) = .slice (some s_.2.1) y786.length c_) ∧ (w'.heap[g0]? = some (.cells #[.int .i64 0, .string (⟨#[]⟩ : ByteArray)] 38 (0, 0))) ∧ (w'.heap[s_.2.2]? = some (.cells #[.int .i64 0, .string (⟨#[]⟩ : ByteArray)] 38 (0, 0))) ∧ (w.heap.size ≤ s_.2.2) ∧ (w0.heap.size ≤ s_.2.2) ∧ (g ≠ s_.2.2) ∧ (s_.2.2 ≠ g) ∧ (g0 ≠ s_.2.2) ∧ (s_.2.2 ≠ g0) ∧ (IsS131 w0 w' g s0_0 t793) ∧ (KeepBut w w' g none) ∧ (Below w0.heap.size w0 w')) ?_ ?_
 rotate_left
 ·intro hJ0_2_4_6_11
  refine join_ (σ := Value × Addr) 2 #[true, true, true, true, true, true, true, true, true, true, true, false, false] (fun s_ => [(4, s_.1), (6, .int .i64 t789), (8, .int .i64 (rd y786 t789)), (10, .int .i64 t792), (7, .pointer (some (s_.2.add (t789).toNat))), (11, .int .i64 (wrap64 (Int.tdiv t792 59))), (12, .int .i64 (wrap64 ((wrap64 (Int.tdiv t792 59)) * 5))), (13, .int .i64 (wrap64 ((rd y786 t789) + (wrap64 ((wrap64 (Int.tdiv t792 59)) * 5))))), (14, .agg #[.int .i64 (wrap64 ((rd y786 t789) + (wrap64 ((wrap64 (Int.tdiv t792 59)) * 5)))), .string (⟨#[]⟩ : ByteArray)])]) (fun s_ w' => (Kd.R (Kd.int .i64) 3 w' w.heap.size (fun _ => True) s_.1 y786) ∧ (∃ c_, (s_.1 : Value) = .slice (some s_.2) y786.length c_) ∧ (w'.heap[g0]? = some (.cells #[.int .i64 0, .string (⟨#[]⟩ : ByteArray)] 38 (0, 0))) ∧ (IsS131 w0 w' g s0_0 t793) ∧ (KeepBut w w' g none) ∧ (Below w0.heap.size w0 w')) ?_ ?_
  rotate_left
  ·intro hJ0_2_4_6
   refine join_ (σ := Value × Addr × Nat) 6 #[true, true, true, true, true, true, false, false, false, false, false, true, false] (fun s_ => [(4, s_.1), (6, .int .i64 t789), (8, .int .i64 (rd y786 t789)), (3, .pointer (some ⟨s_.2.2, 0, none⟩)), (7, .pointer (some (s_.2.1.add (t789).toNat)))]) (fun s_ w' => (Kd.R (Kd.int .i64) 3 w' w.heap.size (fun _ => True) s_.1 y786) ∧ (∃ c_, (s_.1 : Value) = .slice (some s_.2.1) y786.length c_) ∧ (w'.heap[g0]? = some (.cells #[.int .i64 0, .string (⟨#[]⟩ : ByteArray)] 38 (0, 0))) ∧ (w'.heap[s_.2.2]? = some (.cells #[.int .i64 0, .string (⟨#[]⟩ : ByteArray)] 38 (0, 0))) ∧ (w.heap.size ≤ s_.2.2) ∧ (w0.heap.size ≤ s_.2.2) ∧ (g ≠ s_.2.2) ∧ (s_.2.2 ≠ g) ∧ (g0 ≠ s_.2.2) ∧ (s_.2.2 ≠ g0) ∧ (IsS131 w0 w' g s0_0 t790) ∧ (KeepBut w w' g none) ∧ (Below w0.heap.size w0 w')) ?_ ?_
   rotate_left
   ·intro hJ0_2_4_11
    refine join_ (σ := Value × Addr × Nat) 4 #[true, true, true, true, false, true, true, true, true, false, false, true, false] (fun s_ => [(4, s_.1), (6, .int .i64 t789), (10, .int .i64 t792), (3, .pointer (some ⟨s_.2.2, 0, none⟩)), (7, .pointer (some (s_.2.1.add (t789).toNat))), (11, .int .i64 (wrap64 (Int.tdiv t792 59))), (12, .int .i64 (wrap64 ((wrap64 (Int.tdiv t792 59)) * 5)))]) (fun s_ w' => (Kd.R (Kd.int .i64) 3 w' w.heap.size (fun _ => True) s_.1 y786) ∧ (∃ c_, (s_.1 : Value) = .slice (some s_.2.1) y786.length c_) ∧ (w'.heap[g0]? = some (.cells #[.int .i64 0, .string (⟨#[]⟩ : ByteArray)] 38 (0, 0))) ∧ (w'.heap[s_.2.2]? = some (.cells #[.int .i64 0, .string (⟨#[]⟩ : ByteArray)] 38 (0, 0))) ∧ (w.heap.size ≤ s_.2.2) ∧ (w0.heap.size ≤ s_.2.2) ∧ (g ≠ s_.2.2) ∧ (s_.2.2 ≠ g) ∧ (g0 ≠ s_.2.2) ∧ (s_.2.2 ≠ g0) ∧ (IsS131 w0 w' g s0_0 t793) ∧ (KeepBut w w' g none) ∧ (Below w0.heap.size w0 w')) ?_ ?_
    rotate_left
    ·intro hJ0_2_6_11
     refine join_ (σ := Value × Addr) 7 #[true, true, true, true, true, true, false, false, false, false, false, false, false] (fun s_ => [(4, s_.1), (6, .int .i64 t789), (8, .int .i64 (rd y786 t789)), (7, .pointer (some (s_.2.add (t789).toNat)))]) (fun s_ w' => (Kd.R (Kd.int .i64) 3 w' w.heap.size (fun _ => True) s_.1 y786) ∧ (∃ c_, (s_.1 : Value) = .slice (some s_.2) y786.length c_) ∧ (w'.heap[g0]? = some (.cells #[.int .i64 0, .string (⟨#[]⟩ : ByteArray)] 38 (0, 0))) ∧ (IsS131 w0 w' g s0_0 t790) ∧ (KeepBut w w' g none) ∧ (Below w0.heap.size w0 w')) ?_ ?_
     rotate_left
     ·intro hJ0_2_4
      refine join_ (σ := Value × Addr) 5 #[true, true, true, true, false, true, true, true, true, false, false, false, false] (fun s_ => [(4, s_.1), (6, .int .i64 t789), (10, .int .i64 t792), (7, .pointer (some (s_.2.add (t789).toNat))), (11, .int .i64 (wrap64 (Int.tdiv t792 59))), (12, .int .i64 (wrap64 ((wrap64 (Int.tdiv t792 59)) * 5)))]) (fun s_ w' => (Kd.R (Kd.int .i64) 3 w' w.heap.size (fun _ => True) s_.1 y786) ∧ (∃ c_, (s_.1 : Value) = .slice (some s_.2) y786.length c_) ∧ (w'.heap[g0]? = some (.cells #[.int .i64 0, .string (⟨#[]⟩ : ByteArray)] 38 (0, 0))) ∧ (IsS131 w0 w' g s0_0 t793) ∧ (KeepBut w w' g none) ∧ (Below w0.heap.size w0 w')) ?_ ?_
      rotate_left
      ·intro hJ0_2_6
       refine join_ (σ := Value × Addr × Nat) 7 #[true, true, true, true, false, true, false, false, false, false, false, true, false] (fun s_ => [(4, s_.1), (6, .int .i64 t789), (3, .pointer (some ⟨s_.2.2, 0, none⟩)), (7, .pointer (some (s_.2.1.add (t789).toNat)))]) (fun s_ w' => (Kd.R (Kd.int .i64) 3 w' w.heap.size (fun _ => True) s_.1 y786) ∧ (∃ c_, (s_.1 : Value) = .slice (some s_.2.1) y786.length c_) ∧ (w'.heap[g0]? = some (.cells #[.int .i64 0, .string (⟨#[]⟩ : ByteArray)] 38 (0, 0))) ∧ (w'.heap[s_.2.2]? = some (.cells #[.int .i64 0, .string (⟨#[]⟩ : ByteArray)] 38 (0, 0))) ∧ (w.heap.size ≤ s_.2.2) ∧ (w0.heap.size ≤ s_.2.2) ∧ (g ≠ s_.2.2) ∧ (s_.2.2 ≠ g) ∧ (g0 ≠ s_.2.2) ∧ (s_.2.2 ≠ g0) ∧ (IsS131 w0 w' g s0_0 t790) ∧ (KeepBut w w' g none) ∧ (Below w0.heap.size w0 w')) ?_ ?_
       rotate_left
       ·intro hJ0_2_11
        refine join_ (σ := Nat) 6 #[false, true, true, false, false, true, true, true, true, false, false, true, false] (fun s_ => [(6, .int .i64 t789), (10, .int .i64 t792), (3, .pointer (some ⟨s_, 0, none⟩)), (11, .int .i64 (wrap64 (Int.tdiv t792 59))), (12, .int .i64 (wrap64 ((wrap64 (Int.tdiv t792 59)) * 5)))]) (fun s_ w' => (w'.heap[g0]? = some (.cells #[.int .i64 0, .string (⟨#[]⟩ : ByteArray)] 38 (0, 0))) ∧ (w'.heap[s_]? = some (.cells #[.int .i64 0, .string (⟨#[]⟩ : ByteArray)] 38 (0, 0))) ∧ (w.heap.size ≤ s_) ∧ (w0.heap.size ≤ s_) ∧ (g ≠ s_) ∧ (s_ ≠ g) ∧ (g0 ≠ s_) ∧ (s_ ≠ g0) ∧ (IsS131 w0 w' g s0_0 t793) ∧ (KeepBut w w' g none) ∧ (Below w0.heap.size w0 w')) ?_ ?_
        rotate_left
        ·intro hJ2_6_11
         refine join_ (σ := Value × Addr) 8 #[true, true, true, true, false, true, false, false, false, false, false, false, false] (fun s_ => [(4, s_.1), (6, .int .i64 t789), (7, .pointer (some (s_.2.add (t789).toNat)))]) (fun s_ w' => (Kd.R (Kd.int .i64) 3 w' w.heap.size (fun _ => True) s_.1 y786) ∧ (∃ c_, (s_.1 : Value) = .slice (some s_.2) y786.length c_) ∧ (w'.heap[g0]? = some (.cells #[.int .i64 0, .string (⟨#[]⟩ : ByteArray)] 38 (0, 0))) ∧ (IsS131 w0 w' g s0_0 t790) ∧ (KeepBut w w' g none) ∧ (Below w0.heap.size w0 w')) ?_ ?_
         rotate_left
         ·intro hJ0_2
          refine join_ (σ := Value × Addr × Nat) 9 #[true, true, false, false, false, true, false, false, false, false, false, true, false] (fun s_ => [(4, s_.1), (3, .pointer (some ⟨s_.2.2, 0, none⟩))]) (fun s_ w' => (Kd.R (Kd.int .i64) 3 w' w.heap.size (fun _ => True) s_.1 y786) ∧ (∃ c_, (s_.1 : Value) = .slice (some s_.2.1) y786.length c_) ∧ (w'.heap[g0]? = some (.cells #[.int .i64 0, .string (⟨#[]⟩ : ByteArray)] 38 (0, 0))) ∧ (w'.heap[s_.2.2]? = some (.cells #[.int .i64 0, .string (⟨#[]⟩ : ByteArray)] 38 (0, 0))) ∧ (w.heap.size ≤ s_.2.2) ∧ (w0.heap.size ≤ s_.2.2) ∧ (g ≠ s_.2.2) ∧ (s_.2.2 ≠ g) ∧ (g0 ≠ s_.2.2) ∧ (s_.2.2 ≠ g0) ∧ (IsS131 w0 w' g s0_0 s0_1) ∧ (KeepBut w w' g none) ∧ (Below w0.heap.size w0 w')) ?_ ?_
          rotate_left
          ·intro hJ0_11
           refine join_ (σ := Unit) 7 #[false, true, true, false, false, true, true, true, true, false, false, false, false] (fun s_ => [(6, .int .i64 t789), (10, .int .i64 t792), (11, .int .i64 (wrap64 (Int.tdiv t792 59))), (12, .int .i64 (wrap64 ((wrap64 (Int.tdiv t792 59)) * 5)))]) (fun s_ w' => (w'.heap[g0]? = some (.cells #[.int .i64 0, .string (⟨#[]⟩ : ByteArray)] 38 (0, 0))) ∧ (IsS131 w0 w' g s0_0 t793) ∧ (KeepBut w w' g none) ∧ (Below w0.heap.size w0 w')) ?_ ?_
           rotate_left
           ·intro hJ2_6
            refine join_ (σ := Nat) 9 #[false, true, true, false, false, true, false, false, false, false, false, true, false] (fun s_ => [(6, .int .i64 t789), (3, .pointer (some ⟨s_, 0, none⟩))]) (fun s_ w' => (w'.heap[g0]? = some (.cells #[.int .i64 0, .string (⟨#[]⟩ : ByteArray)] 38 (0, 0))) ∧ (w'.heap[s_]? = some (.cells #[.int .i64 0, .string (⟨#[]⟩ : ByteArray)] 38 (0, 0))) ∧ (w.heap.size ≤ s_) ∧ (w0.heap.size ≤ s_) ∧ (g ≠ s_) ∧ (s_ ≠ g) ∧ (g0 ≠ s_) ∧ (s_ ≠ g0) ∧ (IsS131 w0 w' g s0_0 t790) ∧ (KeepBut w w' g none) ∧ (Below w0.heap.size w0 w')) ?_ ?_
            rotate_left
            ·intro hJ2_11
             refine join_ (σ := Value × Addr) 10 #[true, true, false, false, false, true, false, false, false, false, false, false, false] (fun s_ => [(4, s_.1)]) (fun s_ w' => (Kd.R (Kd.int .i64) 3 w' w.heap.size (fun _ => True) s_.1 y786) ∧ (∃ c_, (s_.1 : Value) = .slice (some s_.2) y786.length c_) ∧ (w'.heap[g0]? = some (.cells #[.int .i64 0, .string (⟨#[]⟩ : ByteArray)] 38 (0, 0))) ∧ (IsS131 w0 w' g s0_0 s0_1) ∧ (KeepBut w w' g none) ∧ (Below w0.heap.size w0 w')) ?_ ?_
             rotate_left
             ·intro hJ0
              refine join_ (σ := Unit) 10 #[false, true, true, false, false, true, false, false, false, false, false, false, false] (fun s_ => [(6, .int .i64 t789)]) (fun s_ w' => (w'.heap[g0]? = some (.cells #[.int .i64 0, .string (⟨#[]⟩ : ByteArray)] 38 (0, 0))) ∧ (IsS131 w0 w' g s0_0 t790) ∧ (KeepBut w w' g none) ∧ (Below w0.heap.size w0 w')) ?_ ?_
              rotate_left
              ·intro hJ2
               refine join_ (σ := Nat) 10 #[false, true, false, false, false, true, false, false, false, false, false, true, false] (fun s_ => [(3, .pointer (some ⟨s_, 0, none⟩))]) (fun s_ w' => (w'.heap[g0]? = some (.cells #[.int .i64 0, .string (⟨#[]⟩ : ByteArray)] 38 (0, 0))) ∧ (w'.heap[s_]? = some (.cells #[.int .i64 0, .string (⟨#[]⟩ : ByteArray)] 38 (0, 0))) ∧ (w.heap.size ≤ s_) ∧ (w0.heap.size ≤ s_) ∧ (g ≠ s_) ∧ (s_ ≠ g) ∧ (g0 ≠ s_) ∧ (s_ ≠ g0) ∧ (IsS131 w0 w' g s0_0 s0_1) ∧ (KeepBut w w' g none) ∧ (Below w0.heap.size w0 w')) ?_ ?_
               rotate_left
               ·intro hJ1
                refine three_ (i := 0) (j := 2) (k := 11) (Ni := some 4) (Nj := some 6) (Nk := some 3) #[true, true, false, false, false, true, false, false, false, false, false, false, false] #[false, true, true, false, false, true, false, false, false, false, false, false, false] #[false, true, false, false, false, true, false, false, false, false, false, true, false] rfl rfl rfl rfl rfl rfl (three_of HT_.out (by kernel_rfl)) (by decide) (by decide) (by decide) (fun K hK => ?_) (fun K hK => ?_) (fun K hK => ?_)
                ·skip
                 refine Kd.R_lit_step (Kd.int .i64) _ 3 ?hg (N := 4) ?hd (xs := ([0, 0, 0, 1, 1, 2, 3, 4] : List Int)) (inner := [.int .i64 0, .int .i64 0, .int .i64 0, .int .i64 1, .int .i64 1, .int .i64 2, .int .i64 3, .int .i64 4]) (ok := fun _ => True) (okp := fun _ => True) ?hr ?hp (fun _ hk => hk) trivial (Below.refl _ _) (Nat.le_refl _) (by simp) ?_; (case hd => rfl); (case hg => rfl); (case hr => exact Z17); (case hp => exact Z154)
                 intro v0 w9 ho0 hb hg_ hnew_
                 clear hg_ hnew_
                 (first | rw [← Ny0.out] at ho0 | (simp only [Int.reduceToNat] at ho0; rw [← Ny0.out] at ho0))
                 have O0 := sqa (Kd.R_lower ho0 (keep_size (w := w) (g := g) (row := none) (Z83 GW0)))
                 replace B0 := sqT B0 hb
                 replace HK := sqa (KeepBut.trans (Z83 GW0) (KeepBut.of_below hb g none) (.inl rfl))
                 replace HB := sqa (below_step (Z84 HI0 E0) hb)
                 replace HI0 := sqa (IsS131.below (Z85 HI0 N0) hb)
                 clear hb ho0
                 obtain ⟨Ao0, co0, eo0⟩ := Kd.R_slice O0.1
                 subst eo0
                 obtain ⟨ado0, fo0, _⟩ := Kd.at_int (Kd.R_reads' O0.1).2.2 0 (by decide) (by rw [Ny0.out]; simp)
                 cases fo0
                 refine hK.out _ _ trivial (fun hHeld => ?_)
                 clear hK K
                 refine sqN (some 4) ?_
                 exact norm_ Z155 (hJ0 (.slice (some ado0) y786.length co0, ado0) _ ⟨(sqR O0), ⟨_, rfl⟩, (sqK B0), (Z85 HI0 N0), (Z83 GW0), (Z84 HI0 E0)⟩)
                ·skip
                 refine sqg func82 #[.pointer (some ⟨g, 0, none⟩), .int .i64 8] ?_
                 with_reducible refine (F1.c k g s0_0 s0_1 8 t789 t790 w0 _ ?side1 ?side2 A2.1).mono ?_
                 (case side1 => exact Z85 HI0 N0)
                 (case side2 => exact Z84 HI0 E0)
                 rintro e w9 ⟨rfl, hi, hb, hk⟩
                 refine ⟨_, rfl, ?_⟩
                 replace B0 := sqkb hk B0 N1
                 replace HK := sqa (KeepBut.trans (Z83 GW0) hk (.inl rfl))
                 replace HB := sqa (hb)
                 replace HI0 := sqa (hi)
                 refine hK.out _ _ trivial (fun hHeld => ?_)
                 clear hK K
                 refine sqN (some 6) ?_
                 exact norm_ Z155 (hJ2 () _ ⟨(sqK B0), (Z85 HI0 N0), (Z83 GW0), (Z84 HI0 E0)⟩)
                ·skip
                 refine box_step ?hg (N := 3) ?hd (cs := #[.int .i64 0, .string (⟨#[]⟩ : ByteArray)]) (t := 38) ?hr ?_; (case hd => rfl); (case hg => rfl); (case hr => exact Z17)
                 intro gb794 hg w9 hbox hb
                 replace HB := sqa (below_step (Z84 HI0 E0) hb)
                 have B2 := sqa (hbox)
                 have GW1 := sqa ((Z173 GW0 : w.heap.size ≤ gb794))
                 have E1 := sqa ((Nat.le_trans HW0.out (Z173 GW0 : w.heap.size ≤ gb794) : w0.heap.size ≤ gb794))
                 replace HK := sqa (KeepBut.trans (Z83 GW0) (KeepBut.of_below hb g none) (.inl rfl))
                 obtain ⟨N2, N3⟩ := sqM hg B0
                 replace B0 := sqT B0 hb
                 have N4 := sqa ((Z156 HI0 N0 : g ≠ gb794))
                 have N5 := sqa ((Z157 HI0 N0 : gb794 ≠ g))
                 replace HI0 := sqa (IsS131.below (Z85 HI0 N0) hb)
                 clear hb hbox hg
                 refine hK.out _ _ trivial (fun hHeld => ?_)
                 clear hK K
                 refine sqN (some 3) ?_
                 exact norm_ Z155 (hJ1 (gb794) _ ⟨(sqK B0), (sqK B2), GW1.1, E1.1, N4.1, N5.1, N2.1, N3.1, (Z86 HI0 N0 N4), (Z87 GW0 GW1), (Z88 HI0 E0 E1)⟩)
               ·skip
                rintro gb794 w2 ⟨h0_, h1_, h2_, h3_, h4_, h5_, h6_, h7_, h8_, h9_, h0⟩
                replace B0 := sqa h0_
                replace B2 := sqa h1_
                replace GW1 := sqa h2_
                replace E1 := sqa h3_
                replace N4 := sqa h4_
                replace N5 := sqa h5_
                replace N2 := sqa h6_
                replace N3 := sqa h7_
                replace HI0 := sqa h8_
                replace HK := sqa h9_
                replace HB := sqa h0
                clear h0_ h1_ h2_ h3_ h4_ h5_ h6_ h7_ h8_ h9_ h0
                have hHeld := trivial
                refine norm_ (a' := ?_) ?_ ?_
                rotate_left
                ·simp only [putAll, Act.put, List.setIfInBounds_toArray, List.set_cons_zero, List.set_cons_succ]
                 rfl
                refine two_ (i := 0) (j := 2) (Ni := some 4) (Nj := some 6) #[true, true, false, false, false, true, false, false, false, false, false, true, false] #[false, true, true, false, false, true, false, false, false, false, false, true, false] rfl rfl rfl rfl (two_of HT_.out (by kernel_rfl)) (by decide) (by decide) (fun K hK => ?_) (fun K hK => ?_)
                ·skip
                 refine Kd.R_lit_step (Kd.int .i64) _ 3 ?hg (N := 4) ?hd (xs := ([0, 0, 0, 1, 1, 2, 3, 4] : List Int)) (inner := [.int .i64 0, .int .i64 0, .int .i64 0, .int .i64 1, .int .i64 1, .int .i64 2, .int .i64 3, .int .i64 4]) (ok := fun _ => True) (okp := fun _ => True) ?hr ?hp (fun _ hk => hk) trivial (Below.refl _ _) (Nat.le_refl _) (by simp) ?_; (case hd => rfl); (case hg => rfl); (case hr => exact Z17); (case hp => exact Z154)
                 intro v0 w3 ho1 hb hg_ hnew_
                 clear hg_ hnew_
                 (first | rw [← Ny0.out] at ho1 | (simp only [Int.reduceToNat] at ho1; rw [← Ny0.out] at ho1))
                 have O0 := sqa (Kd.R_lower ho1 (keep_size (w := w) (g := g) (row := none) (Z87 GW0 GW1)))
                 replace B0 := sqT B0 hb
                 replace B2 := sqT B2 hb
                 replace HK := sqa (KeepBut.trans (Z87 GW0 GW1) (KeepBut.of_below hb g none) (.inl rfl))
                 replace HB := sqa (below_step (Z88 HI0 E0 E1) hb)
                 replace HI0 := sqa (IsS131.below (Z86 HI0 N0 N4) hb)
                 clear hb ho1
                 obtain ⟨Ao1, co1, eo1⟩ := Kd.R_slice O0.1
                 subst eo1
                 obtain ⟨ado1, fo1, _⟩ := Kd.at_int (Kd.R_reads' O0.1).2.2 0 (by decide) (by rw [Ny0.out]; simp)
                 cases fo1
                 refine hK.out _ _ trivial (fun hHeld => ?_)
                 clear hK K
                 refine sqN (some 4) ?_
                 exact norm_ Z155 (hJ0_11 (.slice (some ado1) y786.length co1, ado1, gb794) _ ⟨(sqR O0), ⟨_, rfl⟩, (sqK B0), (sqK B2), GW1.1, E1.1, N4.1, N5.1, N2.1, N3.1, (Z86 HI0 N0 N4), (Z87 GW0 GW1), (Z88 HI0 E0 E1)⟩)
                ·skip
                 refine sqg func82 #[.pointer (some ⟨g, 0, none⟩), .int .i64 8] ?_
                 with_reducible refine (F1.c k g s0_0 s0_1 8 t789 t790 w0 _ ?side1 ?side2 A2.1).mono ?_
                 (case side1 => exact Z86 HI0 N0 N4)
                 (case side2 => exact Z88 HI0 E0 E1)
                 rintro e w3 ⟨rfl, hi, hb, hk⟩
                 refine ⟨_, rfl, ?_⟩
                 replace B0 := sqkb hk B0 N1
                 replace B2 := sqkb hk B2 N5
                 replace HK := sqa (KeepBut.trans (Z87 GW0 GW1) hk (.inl rfl))
                 replace HB := sqa (hb)
                 replace HI0 := sqa (hi)
                 refine hK.out _ _ trivial (fun hHeld => ?_)
                 clear hK K
                 refine sqN (some 6) ?_
                 exact norm_ Z155 (hJ2_11 (gb794) _ ⟨(sqK B0), (sqK B2), GW1.1, E1.1, N4.1, N5.1, N2.1, N3.1, (Z86 HI0 N0 N4), (Z87 GW0 GW1), (Z88 HI0 E0 E1)⟩)
              ·skip
               rintro _ w2 ⟨h0_, h1_, h2_, h3_⟩
               replace B0 := sqa h0_
               replace HI0 := sqa h1_
               replace HK := sqa h2_
               replace HB := sqa h3_
               clear h0_ h1_ h2_ h3_
               have hHeld := trivial
               refine norm_ (a' := ?_) ?_ ?_
               rotate_left
               ·simp only [putAll, Act.put, List.setIfInBounds_toArray, List.set_cons_zero, List.set_cons_succ]
                rfl
               refine three_ (i := 0) (j := 6) (k := 11) (Ni := some 4) (Nj := some 10) (Nk := some 3) #[true, true, true, false, false, true, false, false, false, false, false, false, false] #[false, true, true, false, false, true, true, false, false, false, false, false, false] #[false, true, true, false, false, true, false, false, false, false, false, true, false] rfl rfl rfl rfl rfl rfl (three_of HT_.out (by kernel_rfl)) (by decide) (by decide) (by decide) (fun K hK => ?_) (fun K hK => ?_) (fun K hK => ?_)
               ·skip
                refine Kd.R_lit_step (Kd.int .i64) _ 3 ?hg (N := 4) ?hd (xs := ([0, 0, 0, 1, 1, 2, 3, 4] : List Int)) (inner := [.int .i64 0, .int .i64 0, .int .i64 0, .int .i64 1, .int .i64 1, .int .i64 2, .int .i64 3, .int .i64 4]) (ok := fun _ => True) (okp := fun _ => True) ?hr ?hp (fun _ hk => hk) trivial (Below.refl _ _) (Nat.le_refl _) (by simp) ?_; (case hd => rfl); (case hg => rfl); (case hr => exact Z17); (case hp => exact Z154)
                intro v0 w3 ho1 hb hg_ hnew_
                clear hg_ hnew_
                (first | rw [← Ny0.out] at ho1 | (simp only [Int.reduceToNat] at ho1; rw [← Ny0.out] at ho1))
                have O0 := sqa (Kd.R_lower ho1 (keep_size (w := w) (g := g) (row := none) (Z83 GW0)))
                replace B0 := sqT B0 hb
                replace HK := sqa (KeepBut.trans (Z83 GW0) (KeepBut.of_below hb g none) (.inl rfl))
                replace HB := sqa (below_step (Z84 HI0 E0) hb)
                replace HI0 := sqa (IsS131.below (Z85 HI0 N0) hb)
                clear hb ho1
                obtain ⟨Ao1, co1, eo1⟩ := Kd.R_slice O0.1
                subst eo1
                obtain ⟨ado1, fo1, _⟩ := Kd.at_int (Kd.R_reads' O0.1).2.2 0 (by decide) (by rw [Ny0.out]; simp)
                cases fo1
                refine hK.out _ _ trivial (fun hHeld => ?_)
                clear hK K
                refine sqN (some 4) ?_
                refine sqP 3 (some 7) (h := ?_)
                exact norm_ Z155 (hJ0_2 (.slice (some ado1) y786.length co1, ado1) _ ⟨(sqR O0), ⟨_, rfl⟩, (sqK B0), (Z85 HI0 N0), (Z83 GW0), (Z84 HI0 E0)⟩)
               ·skip
                refine sqg func82 #[.pointer (some ⟨g, 0, none⟩), .int .i64 60] ?_
                with_reducible refine (F1.c k g s0_0 t790 60 t792 t793 w0 _ ?side1 ?side2 A5.1).mono ?_
                (case side1 => exact Z85 HI0 N0)
                (case side2 => exact Z84 HI0 E0)
                rintro e w3 ⟨rfl, hi, hb, hk⟩
                refine ⟨_, rfl, ?_⟩
                replace B0 := sqkb hk B0 N1
                replace HK := sqa (KeepBut.trans (Z83 GW0) hk (.inl rfl))
                replace HB := sqa (hb)
                replace HI0 := sqa (hi)
                refine hK.out _ _ trivial (fun hHeld => ?_)
                clear hK K
                refine sqN (some 10) ?_
                refine sqP 7 (some 11) (h := ?_)
                refine sqP 8 (some 12) (h := ?_)
                exact norm_ Z155 (hJ2_6 () _ ⟨(sqK B0), (Z85 HI0 N0), (Z83 GW0), (Z84 HI0 E0)⟩)
               ·skip
                refine box_step ?hg (N := 3) ?hd (cs := #[.int .i64 0, .string (⟨#[]⟩ : ByteArray)]) (t := 38) ?hr ?_; (case hd => rfl); (case hg => rfl); (case hr => exact Z17)
                intro gb794 hg w3 hbox hb
                replace HB := sqa (below_step (Z84 HI0 E0) hb)
                have B2 := sqa (hbox)
                have GW1 := sqa ((Z173 GW0 : w.heap.size ≤ gb794))
                have E1 := sqa ((Nat.le_trans HW0.out (Z173 GW0 : w.heap.size ≤ gb794) : w0.heap.size ≤ gb794))
                replace HK := sqa (KeepBut.trans (Z83 GW0) (KeepBut.of_below hb g none) (.inl rfl))
                obtain ⟨N2, N3⟩ := sqM hg B0
                replace B0 := sqT B0 hb
                have N4 := sqa ((Z158 HI0 N0 : g ≠ gb794))
                have N5 := sqa ((Z159 HI0 N0 : gb794 ≠ g))
                replace HI0 := sqa (IsS131.below (Z85 HI0 N0) hb)
                clear hb hbox hg
                refine hK.out _ _ trivial (fun hHeld => ?_)
                clear hK K
                refine sqN (some 3) ?_
                exact norm_ Z155 (hJ2_11 (gb794) _ ⟨(sqK B0), (sqK B2), GW1.1, E1.1, N4.1, N5.1, N2.1, N3.1, (Z86 HI0 N0 N4), (Z87 GW0 GW1), (Z88 HI0 E0 E1)⟩)
             ·skip
              rintro ⟨v0, adz_v0⟩ w4 ⟨h0_, h1_, h2_, h3_, h4_, h5_⟩
              replace O0 : Aside0 (Kd.R (Kd.int .i64) 3 w4 w.heap.size (fun _ => True) v0 y786) := ⟨h0_⟩
              replace HA_HO0 : Aside0 (∃ c_, (v0 : Value) = .slice (some adz_v0) y786.length c_) := ⟨h1_⟩
              replace B0 : Aside0 (w4.heap[g0]? = some (.cells #[.int .i64 0, .string (⟨#[]⟩ : ByteArray)] 38 (0, 0))) := ⟨h2_⟩
              replace HI0 : Aside0 (IsS131 w0 w4 g s0_0 s0_1) := ⟨h3_⟩
              replace HK : Aside0 (KeepBut w w4 g none) := ⟨h4_⟩
              replace HB : Aside0 (Below w0.heap.size w0 w4) := ⟨h5_⟩
              clear h0_ h1_ h2_ h3_ h4_ h5_
              have hHeld := trivial
              obtain ⟨co1, eo1⟩ := HA_HO0.out
              clear HA_HO0
              subst eo1
              refine norm_ (a' := ?_) ?_ ?_
              rotate_left
              ·simp only [putAll, Act.put, List.setIfInBounds_toArray, List.set_cons_zero, List.set_cons_succ]
               rfl
              refine two_ (i := 2) (j := 11) (Ni := some 6) (Nj := some 3) #[true, true, true, false, false, true, false, false, false, false, false, false, false] #[true, true, false, false, false, true, false, false, false, false, false, true, false] rfl rfl rfl rfl (two_of HT_.out (by kernel_rfl)) (by decide) (by decide) (fun K hK => ?_) (fun K hK => ?_)
              ·skip
               refine sqg func82 #[.pointer (some ⟨g, 0, none⟩), .int .i64 8] ?_
               with_reducible refine (F1.c k g s0_0 s0_1 8 t789 t790 w0 _ ?side1 ?side2 A2.1).mono ?_
               (case side1 => exact Z85 HI0 N0)
               (case side2 => exact Z84 HI0 E0)
               rintro e w5 ⟨rfl, hi, hb, hk⟩
               refine ⟨_, rfl, ?_⟩
               replace B0 := sqkb hk B0 N1
               replace O0 := sqa (Kd.R_mono (Kd.R_keep (IsS131.apart (show IsS131 w0 _ g s0_0 s0_1 from by repeat (first | (with_reducible first | exact HI0.1 | apply IsS131.alloc | apply IsS131.drewN | apply IsS131.drew | apply IsS131.set_1 | refine IsS131.far ?_ N0.1 _) | exact HI0.1)) (sqR O0) (by decide)) hk (fun _ h => h.2)) (fun _ h => h.1))
               replace HK := sqa (KeepBut.trans (Z83 GW0) hk (.inl rfl))
               replace HB := sqa (hb)
               replace HI0 := sqa (hi)
               refine hK.out _ _ trivial (fun hHeld => ?_)
               clear hK K
               refine sqN (some 6) ?_
               refine sqP 3 (some 7) (h := ?_)
               exact norm_ Z155 (hJ0_2 (.slice (some adz_v0) y786.length co1, adz_v0) _ ⟨(sqR O0), ⟨_, rfl⟩, (sqK B0), (Z85 HI0 N0), (Z83 GW0), (Z84 HI0 E0)⟩)
              ·skip
               refine box_step ?hg (N := 3) ?hd (cs := #[.int .i64 0, .string (⟨#[]⟩ : ByteArray)]) (t := 38) ?hr ?_; (case hd => rfl); (case hg => rfl); (case hr => exact Z17)
               intro gb794 hg w5 hbox hb
               replace O0 := sqU O0 hb
               replace HB := sqa (below_step (Z84 HI0 E0) hb)
               have B2 := sqa (hbox)
               have GW1 := sqa ((Z173 GW0 : w.heap.size ≤ gb794))
               have E1 := sqa ((Nat.le_trans HW0.out (Z173 GW0 : w.heap.size ≤ gb794) : w0.heap.size ≤ gb794))
               replace HK := sqa (KeepBut.trans (Z83 GW0) (KeepBut.of_below hb g none) (.inl rfl))
               obtain ⟨N2, N3⟩ := sqM hg B0
               replace B0 := sqT B0 hb
               have N4 := sqa ((Z156 HI0 N0 : g ≠ gb794))
               have N5 := sqa ((Z157 HI0 N0 : gb794 ≠ g))
               replace HI0 := sqa (IsS131.below (Z85 HI0 N0) hb)
               clear hb hbox hg
               refine hK.out _ _ trivial (fun hHeld => ?_)
               clear hK K
               refine sqN (some 3) ?_
               exact norm_ Z155 (hJ0_11 (.slice (some adz_v0) y786.length co1, adz_v0, gb794) _ ⟨(sqR O0), ⟨_, rfl⟩, (sqK B0), (sqK B2), GW1.1, E1.1, N4.1, N5.1, N2.1, N3.1, (Z86 HI0 N0 N4), (Z87 GW0 GW1), (Z88 HI0 E0 E1)⟩)
            ·skip
             rintro gb794 w3 ⟨h0_, h1_, h2_, h3_, h4_, h5_, h6_, h7_, h8_, h9_, h0⟩
             replace B0 := sqa h0_
             replace B2 := sqa h1_
             replace GW1 := sqa h2_
             replace E1 := sqa h3_
             replace N4 := sqa h4_
             replace N5 := sqa h5_
             replace N2 := sqa h6_
             replace N3 := sqa h7_
             replace HI0 := sqa h8_
             replace HK := sqa h9_
             replace HB := sqa h0
             clear h0_ h1_ h2_ h3_ h4_ h5_ h6_ h7_ h8_ h9_ h0
             have hHeld := trivial
             refine norm_ (a' := ?_) ?_ ?_
             rotate_left
             ·simp only [putAll, Act.put, List.setIfInBounds_toArray, List.set_cons_zero, List.set_cons_succ]
              rfl
             refine two_ (i := 0) (j := 6) (Ni := some 4) (Nj := some 10) #[true, true, true, false, false, true, false, false, false, false, false, true, false] #[false, true, true, false, false, true, true, false, false, false, false, true, false] rfl rfl rfl rfl (two_of HT_.out (by kernel_rfl)) (by decide) (by decide) (fun K hK => ?_) (fun K hK => ?_)
             ·skip
              refine Kd.R_lit_step (Kd.int .i64) _ 3 ?hg (N := 4) ?hd (xs := ([0, 0, 0, 1, 1, 2, 3, 4] : List Int)) (inner := [.int .i64 0, .int .i64 0, .int .i64 0, .int .i64 1, .int .i64 1, .int .i64 2, .int .i64 3, .int .i64 4]) (ok := fun _ => True) (okp := fun _ => True) ?hr ?hp (fun _ hk => hk) trivial (Below.refl _ _) (Nat.le_refl _) (by simp) ?_; (case hd => rfl); (case hg => rfl); (case hr => exact Z17); (case hp => exact Z154)
              intro v0 w4 ho2 hb hg_ hnew_
              clear hg_ hnew_
              (first | rw [← Ny0.out] at ho2 | (simp only [Int.reduceToNat] at ho2; rw [← Ny0.out] at ho2))
              have O0 := sqa (Kd.R_lower ho2 (keep_size (w := w) (g := g) (row := none) (Z87 GW0 GW1)))
              replace B0 := sqT B0 hb
              replace B2 := sqT B2 hb
              replace HK := sqa (KeepBut.trans (Z87 GW0 GW1) (KeepBut.of_below hb g none) (.inl rfl))
              replace HB := sqa (below_step (Z88 HI0 E0 E1) hb)
              replace HI0 := sqa (IsS131.below (Z86 HI0 N0 N4) hb)
              clear hb ho2
              obtain ⟨Ao2, co2, eo2⟩ := Kd.R_slice O0.1
              subst eo2
              obtain ⟨ado2, fo2, _⟩ := Kd.at_int (Kd.R_reads' O0.1).2.2 0 (by decide) (by rw [Ny0.out]; simp)
              cases fo2
              refine hK.out _ _ trivial (fun hHeld => ?_)
              clear hK K
              refine sqN (some 4) ?_
              refine sqP 3 (some 7) (h := ?_)
              exact norm_ Z155 (hJ0_2_11 (.slice (some ado2) y786.length co2, ado2, gb794) _ ⟨(sqR O0), ⟨_, rfl⟩, (sqK B0), (sqK B2), GW1.1, E1.1, N4.1, N5.1, N2.1, N3.1, (Z86 HI0 N0 N4), (Z87 GW0 GW1), (Z88 HI0 E0 E1)⟩)
             ·skip
              refine sqg func82 #[.pointer (some ⟨g, 0, none⟩), .int .i64 60] ?_
              with_reducible refine (F1.c k g s0_0 t790 60 t792 t793 w0 _ ?side1 ?side2 A5.1).mono ?_
              (case side1 => exact Z86 HI0 N0 N4)
              (case side2 => exact Z88 HI0 E0 E1)
              rintro e w4 ⟨rfl, hi, hb, hk⟩
              refine ⟨_, rfl, ?_⟩
              replace B0 := sqkb hk B0 N1
              replace B2 := sqkb hk B2 N5
              replace HK := sqa (KeepBut.trans (Z87 GW0 GW1) hk (.inl rfl))
              replace HB := sqa (hb)
              replace HI0 := sqa (hi)
              refine hK.out _ _ trivial (fun hHeld => ?_)
              clear hK K
              refine sqN (some 10) ?_
              refine sqP 7 (some 11) (h := ?_)
              refine sqP 8 (some 12) (h := ?_)
              exact norm_ Z155 (hJ2_6_11 (gb794) _ ⟨(sqK B0), (sqK B2), GW1.1, E1.1, N4.1, N5.1, N2.1, N3.1, (Z86 HI0 N0 N4), (Z87 GW0 GW1), (Z88 HI0 E0 E1)⟩)
           ·skip
            rintro _ w3 ⟨h0_, h1_, h2_, h3_⟩
            replace B0 := sqa h0_
            replace HI0 := sqa h1_
            replace HK := sqa h2_
            replace HB := sqa h3_
            clear h0_ h1_ h2_ h3_
            have hHeld := trivial
            refine norm_ (a' := ?_) ?_ ?_
            rotate_left
            ·simp only [putAll, Act.put, List.setIfInBounds_toArray, List.set_cons_zero, List.set_cons_succ]
             rfl
            refine two_ (i := 0) (j := 11) (Ni := some 4) (Nj := some 3) #[true, true, true, false, false, true, true, true, true, false, false, false, false] #[false, true, true, false, false, true, true, true, true, false, false, true, false] rfl rfl rfl rfl (two_of HT_.out (by kernel_rfl)) (by decide) (by decide) (fun K hK => ?_) (fun K hK => ?_)
            ·skip
             refine Kd.R_lit_step (Kd.int .i64) _ 3 ?hg (N := 4) ?hd (xs := ([0, 0, 0, 1, 1, 2, 3, 4] : List Int)) (inner := [.int .i64 0, .int .i64 0, .int .i64 0, .int .i64 1, .int .i64 1, .int .i64 2, .int .i64 3, .int .i64 4]) (ok := fun _ => True) (okp := fun _ => True) ?hr ?hp (fun _ hk => hk) trivial (Below.refl _ _) (Nat.le_refl _) (by simp) ?_; (case hd => rfl); (case hg => rfl); (case hr => exact Z17); (case hp => exact Z154)
             intro v0 w4 ho2 hb hg_ hnew_
             clear hg_ hnew_
             (first | rw [← Ny0.out] at ho2 | (simp only [Int.reduceToNat] at ho2; rw [← Ny0.out] at ho2))
             have O0 := sqa (Kd.R_lower ho2 (keep_size (w := w) (g := g) (row := none) (Z83 GW0)))
             replace B0 := sqT B0 hb
             replace HK := sqa (KeepBut.trans (Z83 GW0) (KeepBut.of_below hb g none) (.inl rfl))
             replace HB := sqa (below_step (Z84 HI0 E0) hb)
             replace HI0 := sqa (IsS131.below (Z85 HI0 N0) hb)
             clear hb ho2
             obtain ⟨Ao2, co2, eo2⟩ := Kd.R_slice O0.1
             subst eo2
             obtain ⟨ado2, fo2, _⟩ := Kd.at_int (Kd.R_reads' O0.1).2.2 0 (by decide) (by rw [Ny0.out]; simp)
             cases fo2
             refine hK.out _ _ trivial (fun hHeld => ?_)
             clear hK K
             refine sqN (some 4) ?_
             refine sqP 3 (some 7) (h := ?_)
             exact norm_ Z155 (hJ0_2_6 (.slice (some ado2) y786.length co2, ado2) _ ⟨(sqR O0), ⟨_, rfl⟩, (sqK B0), (Z85 HI0 N0), (Z83 GW0), (Z84 HI0 E0)⟩)
            ·skip
             refine box_step ?hg (N := 3) ?hd (cs := #[.int .i64 0, .string (⟨#[]⟩ : ByteArray)]) (t := 38) ?hr ?_; (case hd => rfl); (case hg => rfl); (case hr => exact Z17)
             intro gb794 hg w4 hbox hb
             replace HB := sqa (below_step (Z84 HI0 E0) hb)
             have B2 := sqa (hbox)
             have GW1 := sqa ((Z173 GW0 : w.heap.size ≤ gb794))
             have E1 := sqa ((Nat.le_trans HW0.out (Z173 GW0 : w.heap.size ≤ gb794) : w0.heap.size ≤ gb794))
             replace HK := sqa (KeepBut.trans (Z83 GW0) (KeepBut.of_below hb g none) (.inl rfl))
             obtain ⟨N2, N3⟩ := sqM hg B0
             replace B0 := sqT B0 hb
             have N4 := sqa ((Z160 HI0 N0 : g ≠ gb794))
             have N5 := sqa ((Z161 HI0 N0 : gb794 ≠ g))
             replace HI0 := sqa (IsS131.below (Z85 HI0 N0) hb)
             clear hb hbox hg
             refine hK.out _ _ trivial (fun hHeld => ?_)
             clear hK K
             refine sqN (some 3) ?_
             exact norm_ Z155 (hJ2_6_11 (gb794) _ ⟨(sqK B0), (sqK B2), GW1.1, E1.1, N4.1, N5.1, N2.1, N3.1, (Z86 HI0 N0 N4), (Z87 GW0 GW1), (Z88 HI0 E0 E1)⟩)
          ·skip
           rintro ⟨v0, adz_v0, gb794⟩ w6 ⟨h0_, h1_, h2_, h3_, h4_, h5_, h6_, h7_, h8_, h9_, h0, h1, h2⟩
           replace O0 : Aside0 (Kd.R (Kd.int .i64) 3 w6 w.heap.size (fun _ => True) v0 y786) := ⟨h0_⟩
           replace HA_HO0 : Aside0 (∃ c_, (v0 : Value) = .slice (some adz_v0) y786.length c_) := ⟨h1_⟩
           replace B0 : Aside0 (w6.heap[g0]? = some (.cells #[.int .i64 0, .string (⟨#[]⟩ : ByteArray)] 38 (0, 0))) := ⟨h2_⟩
           replace B2 : Aside0 (w6.heap[gb794]? = some (.cells #[.int .i64 0, .string (⟨#[]⟩ : ByteArray)] 38 (0, 0))) := ⟨h3_⟩
           replace GW1 : Aside0 (w.heap.size ≤ gb794) := ⟨h4_⟩
           replace E1 : Aside0 (w0.heap.size ≤ gb794) := ⟨h5_⟩
           replace N4 : Aside0 (g ≠ gb794) := ⟨h6_⟩
           replace N5 : Aside0 (gb794 ≠ g) := ⟨h7_⟩
           replace N2 : Aside0 (g0 ≠ gb794) := ⟨h8_⟩
           replace N3 : Aside0 (gb794 ≠ g0) := ⟨h9_⟩
           replace HI0 : Aside0 (IsS131 w0 w6 g s0_0 s0_1) := ⟨h0⟩
           replace HK : Aside0 (KeepBut w w6 g none) := ⟨h1⟩
           replace HB : Aside0 (Below w0.heap.size w0 w6) := ⟨h2⟩
           clear h0_ h1_ h2_ h3_ h4_ h5_ h6_ h7_ h8_ h9_ h0 h1 h2
           have hHeld := trivial
           obtain ⟨co2, eo2⟩ := HA_HO0.out
           clear HA_HO0
           subst eo2
           refine norm_ (a' := ?_) ?_ ?_
           rotate_left
           ·simp only [putAll, Act.put, List.setIfInBounds_toArray, List.set_cons_zero, List.set_cons_succ]
            rfl
           refine sq1 2 (some 6) (h := fun K hK => ?_)
           refine sqg func82 #[.pointer (some ⟨g, 0, none⟩), .int .i64 8] ?_
           with_reducible refine (F1.c k g s0_0 s0_1 8 t789 t790 w0 _ ?side1 ?side2 A2.1).mono ?_
           (case side1 => exact Z86 HI0 N0 N4)
           (case side2 => exact Z88 HI0 E0 E1)
           rintro e w15 ⟨rfl, hi, hb, hk⟩
           refine ⟨_, rfl, ?_⟩
           replace B0 := sqkb hk B0 N1
           replace O0 := sqa (Kd.R_mono (Kd.R_keep (IsS131.apart (show IsS131 w0 _ g s0_0 s0_1 from by repeat (first | (with_reducible first | exact HI0.1 | apply IsS131.alloc | apply IsS131.drewN | apply IsS131.drew | apply IsS131.set_1 | refine IsS131.far ?_ N0.1 _ | refine IsS131.far ?_ N4.1 _) | exact HI0.1)) (sqR O0) (by decide)) hk (fun _ h => h.2)) (fun _ h => h.1))
           replace B2 := sqkb hk B2 N5
           replace HK := sqa (KeepBut.trans (Z87 GW0 GW1) hk (.inl rfl))
           replace HB := sqa (hb)
           replace HI0 := sqa (hi)
           refine hK.out _ _ trivial (fun hHeld => ?_)
           clear hK K
           refine sqN (some 6) ?_
           refine sqP 3 (some 7) (h := ?_)
           exact norm_ Z155 (hJ0_2_11 (.slice (some adz_v0) y786.length co2, adz_v0, gb794) _ ⟨(sqR O0), ⟨_, rfl⟩, (sqK B0), (sqK B2), GW1.1, E1.1, N4.1, N5.1, N2.1, N3.1, (Z86 HI0 N0 N4), (Z87 GW0 GW1), (Z88 HI0 E0 E1)⟩)
         ·skip
          rintro ⟨v0, adz_v0⟩ w6 ⟨h0_, h1_, h2_, h3_, h4_, h5_⟩
          replace O0 : Aside0 (Kd.R (Kd.int .i64) 3 w6 w.heap.size (fun _ => True) v0 y786) := ⟨h0_⟩
          replace HA_HO0 : Aside0 (∃ c_, (v0 : Value) = .slice (some adz_v0) y786.length c_) := ⟨h1_⟩
          replace B0 : Aside0 (w6.heap[g0]? = some (.cells #[.int .i64 0, .string (⟨#[]⟩ : ByteArray)] 38 (0, 0))) := ⟨h2_⟩
          replace HI0 : Aside0 (IsS131 w0 w6 g s0_0 t790) := ⟨h3_⟩
          replace HK : Aside0 (KeepBut w w6 g none) := ⟨h4_⟩
          replace HB : Aside0 (Below w0.heap.size w0 w6) := ⟨h5_⟩
          clear h0_ h1_ h2_ h3_ h4_ h5_
          have hHeld := trivial
          obtain ⟨co2, eo2⟩ := HA_HO0.out
          clear HA_HO0
          subst eo2
          refine norm_ (a' := ?_) ?_ ?_
          rotate_left
          ·simp only [putAll, Act.put, List.setIfInBounds_toArray, List.set_cons_zero, List.set_cons_succ]
           rfl
          refine three_ (i := 4) (j := 6) (k := 11) (Ni := some 8) (Nj := some 10) (Nk := some 3) #[true, true, true, true, true, true, false, false, false, false, false, false, false] #[true, true, true, true, false, true, true, false, false, false, false, false, false] #[true, true, true, true, false, true, false, false, false, false, false, true, false] rfl rfl rfl rfl rfl rfl (three_of HT_.out (by kernel_rfl)) (by decide) (by decide) (by decide) (fun K hK => ?_) (fun K hK => ?_) (fun K hK => ?_)
          ·skip
           (have p0 : 0 ≤ (t789 : Int) := of_decide_eq_true Z16; have q0 : t789 < (y786.length : Int) := of_decide_eq_true Z16; obtain ⟨ad0, e0, hx0⟩ := Kd.at_int (Kd.R_reads' O0.1).2.2 t789 p0 q0; obtain rfl : adz_v0 = ad0 := (by injection e0))
           refine value_ (w1 := ?_) (v := ?_) (by rfl) rfl ?_ ?_
           rotate_left 2
           ·go_simp
            constructor
            ·rfl
            ·rfl
           clear hx0
           refine hK.out _ _ trivial (fun hHeld => ?_)
           clear hK K
           refine sqN (some 8) ?_
           exact norm_ Z155 (hJ0_2_4 (.slice (some adz_v0) y786.length co2, adz_v0) _ ⟨(sqR O0), ⟨_, rfl⟩, (sqK B0), (Z85 HI0 N0), (Z83 GW0), (Z84 HI0 E0)⟩)
          ·skip
           refine sqg func82 #[.pointer (some ⟨g, 0, none⟩), .int .i64 60] ?_
           with_reducible refine (F1.c k g s0_0 t790 60 t792 t793 w0 _ ?side1 ?side2 A5.1).mono ?_
           (case side1 => exact Z85 HI0 N0)
           (case side2 => exact Z84 HI0 E0)
           rintro e w15 ⟨rfl, hi, hb, hk⟩
           refine ⟨_, rfl, ?_⟩
           replace B0 := sqkb hk B0 N1
           replace O0 := sqa (Kd.R_mono (Kd.R_keep (IsS131.apart (show IsS131 w0 _ g s0_0 t790 from by repeat (first | (with_reducible first | exact HI0.1 | apply IsS131.alloc | apply IsS131.drewN | apply IsS131.drew | apply IsS131.set_1 | refine IsS131.far ?_ N0.1 _) | exact HI0.1)) (sqR O0) (by decide)) hk (fun _ h => h.2)) (fun _ h => h.1))
           replace HK := sqa (KeepBut.trans (Z83 GW0) hk (.inl rfl))
           replace HB := sqa (hb)
           replace HI0 := sqa (hi)
           refine hK.out _ _ trivial (fun hHeld => ?_)
           clear hK K
           refine sqN (some 10) ?_
           refine sqP 7 (some 11) (h := ?_)
           refine sqP 8 (some 12) (h := ?_)
           exact norm_ Z155 (hJ0_2_6 (.slice (some adz_v0) y786.length co2, adz_v0) _ ⟨(sqR O0), ⟨_, rfl⟩, (sqK B0), (Z85 HI0 N0), (Z83 GW0), (Z84 HI0 E0)⟩)
          ·skip
           refine box_step ?hg (N := 3) ?hd (cs := #[.int .i64 0, .string (⟨#[]⟩ : ByteArray)]) (t := 38) ?hr ?_; (case hd => rfl); (case hg => rfl); (case hr => exact Z17)
           intro gb794 hg w15 hbox hb
           replace O0 := sqU O0 hb
           replace HB := sqa (below_step (Z84 HI0 E0) hb)
           have B2 := sqa (hbox)
           have GW1 := sqa ((Z173 GW0 : w.heap.size ≤ gb794))
           have E1 := sqa ((Nat.le_trans HW0.out (Z173 GW0 : w.heap.size ≤ gb794) : w0.heap.size ≤ gb794))
           replace HK := sqa (KeepBut.trans (Z83 GW0) (KeepBut.of_below hb g none) (.inl rfl))
           obtain ⟨N2, N3⟩ := sqM hg B0
           replace B0 := sqT B0 hb
           have N4 := sqa ((Z158 HI0 N0 : g ≠ gb794))
           have N5 := sqa ((Z159 HI0 N0 : gb794 ≠ g))
           replace HI0 := sqa (IsS131.below (Z85 HI0 N0) hb)
           clear hb hbox hg
           refine hK.out _ _ trivial (fun hHeld => ?_)
           clear hK K
           refine sqN (some 3) ?_
           exact norm_ Z155 (hJ0_2_11 (.slice (some adz_v0) y786.length co2, adz_v0, gb794) _ ⟨(sqR O0), ⟨_, rfl⟩, (sqK B0), (sqK B2), GW1.1, E1.1, N4.1, N5.1, N2.1, N3.1, (Z86 HI0 N0 N4), (Z87 GW0 GW1), (Z88 HI0 E0 E1)⟩)
        ·skip
         rintro gb794 w4 ⟨h0_, h1_, h2_, h3_, h4_, h5_, h6_, h7_, h8_, h9_, h0⟩
         replace B0 := sqa h0_
         replace B2 := sqa h1_
         replace GW1 := sqa h2_
         replace E1 := sqa h3_
         replace N4 := sqa h4_
         replace N5 := sqa h5_
         replace N2 := sqa h6_
         replace N3 := sqa h7_
         replace HI0 := sqa h8_
         replace HK := sqa h9_
         replace HB := sqa h0
         clear h0_ h1_ h2_ h3_ h4_ h5_ h6_ h7_ h8_ h9_ h0
         have hHeld := trivial
         refine norm_ (a' := ?_) ?_ ?_
         rotate_left
         ·simp only [putAll, Act.put, List.setIfInBounds_toArray, List.set_cons_zero, List.set_cons_succ]
          rfl
         refine sq1 0 (some 4) (h := fun K hK => ?_)
         refine Kd.R_lit_step (Kd.int .i64) _ 3 ?hg (N := 4) ?hd (xs := ([0, 0, 0, 1, 1, 2, 3, 4] : List Int)) (inner := [.int .i64 0, .int .i64 0, .int .i64 0, .int .i64 1, .int .i64 1, .int .i64 2, .int .i64 3, .int .i64 4]) (ok := fun _ => True) (okp := fun _ => True) ?hr ?hp (fun _ hk => hk) trivial (Below.refl _ _) (Nat.le_refl _) (by simp) ?_; (case hd => rfl); (case hg => rfl); (case hr => exact Z17); (case hp => exact Z154)
         intro v0 w6 ho3 hb hg_ hnew_
         clear hg_ hnew_
         (first | rw [← Ny0.out] at ho3 | (simp only [Int.reduceToNat] at ho3; rw [← Ny0.out] at ho3))
         have O0 := sqa (Kd.R_lower ho3 (keep_size (w := w) (g := g) (row := none) (Z87 GW0 GW1)))
         replace B0 := sqT B0 hb
         replace B2 := sqT B2 hb
         replace HK := sqa (KeepBut.trans (Z87 GW0 GW1) (KeepBut.of_below hb g none) (.inl rfl))
         replace HB := sqa (below_step (Z88 HI0 E0 E1) hb)
         replace HI0 := sqa (IsS131.below (Z86 HI0 N0 N4) hb)
         clear hb ho3
         obtain ⟨Ao3, co3, eo3⟩ := Kd.R_slice O0.1
         subst eo3
         obtain ⟨ado3, fo3, _⟩ := Kd.at_int (Kd.R_reads' O0.1).2.2 0 (by decide) (by rw [Ny0.out]; simp)
         cases fo3
         refine hK.out _ _ trivial (fun hHeld => ?_)
         clear hK K
         refine sqN (some 4) ?_
         refine sqP 3 (some 7) (h := ?_)
         exact norm_ Z155 (hJ0_2_6_11 (.slice (some ado3) y786.length co3, ado3, gb794) _ ⟨(sqR O0), ⟨_, rfl⟩, (sqK B0), (sqK B2), GW1.1, E1.1, N4.1, N5.1, N2.1, N3.1, (Z86 HI0 N0 N4), (Z87 GW0 GW1), (Z88 HI0 E0 E1)⟩)
       ·skip
        rintro ⟨v0, adz_v0, gb794⟩ w5 ⟨h0_, h1_, h2_, h3_, h4_, h5_, h6_, h7_, h8_, h9_, h0, h1, h2⟩
        replace O0 : Aside0 (Kd.R (Kd.int .i64) 3 w5 w.heap.size (fun _ => True) v0 y786) := ⟨h0_⟩
        replace HA_HO0 : Aside0 (∃ c_, (v0 : Value) = .slice (some adz_v0) y786.length c_) := ⟨h1_⟩
        replace B0 : Aside0 (w5.heap[g0]? = some (.cells #[.int .i64 0, .string (⟨#[]⟩ : ByteArray)] 38 (0, 0))) := ⟨h2_⟩
        replace B2 : Aside0 (w5.heap[gb794]? = some (.cells #[.int .i64 0, .string (⟨#[]⟩ : ByteArray)] 38 (0, 0))) := ⟨h3_⟩
        replace GW1 : Aside0 (w.heap.size ≤ gb794) := ⟨h4_⟩
        replace E1 : Aside0 (w0.heap.size ≤ gb794) := ⟨h5_⟩
        replace N4 : Aside0 (g ≠ gb794) := ⟨h6_⟩
        replace N5 : Aside0 (gb794 ≠ g) := ⟨h7_⟩
        replace N2 : Aside0 (g0 ≠ gb794) := ⟨h8_⟩
        replace N3 : Aside0 (gb794 ≠ g0) := ⟨h9_⟩
        replace HI0 : Aside0 (IsS131 w0 w5 g s0_0 t790) := ⟨h0⟩
        replace HK : Aside0 (KeepBut w w5 g none) := ⟨h1⟩
        replace HB : Aside0 (Below w0.heap.size w0 w5) := ⟨h2⟩
        clear h0_ h1_ h2_ h3_ h4_ h5_ h6_ h7_ h8_ h9_ h0 h1 h2
        have hHeld := trivial
        obtain ⟨co3, eo3⟩ := HA_HO0.out
        clear HA_HO0
        subst eo3
        refine norm_ (a' := ?_) ?_ ?_
        rotate_left
        ·simp only [putAll, Act.put, List.setIfInBounds_toArray, List.set_cons_zero, List.set_cons_succ]
         rfl
        refine two_ (i := 4) (j := 6) (Ni := some 8) (Nj := some 10) #[true, true, true, true, true, true, false, false, false, false, false, true, false] #[true, true, true, true, false, true, true, false, false, false, false, true, false] rfl rfl rfl rfl (two_of HT_.out (by kernel_rfl)) (by decide) (by decide) (fun K hK => ?_) (fun K hK => ?_)
        ·skip
         (have p0 : 0 ≤ (t789 : Int) := of_decide_eq_true Z16; have q0 : t789 < (y786.length : Int) := of_decide_eq_true Z16; obtain ⟨ad0, e0, hx0⟩ := Kd.at_int (Kd.R_reads' O0.1).2.2 t789 p0 q0; obtain rfl : adz_v0 = ad0 := (by injection e0))
         refine value_ (w1 := ?_) (v := ?_) (by rfl) rfl ?_ ?_
         rotate_left 2
         ·go_simp
          constructor
          ·rfl
          ·rfl
         clear hx0
         refine hK.out _ _ trivial (fun hHeld => ?_)
         clear hK K
         refine sqN (some 8) ?_
         exact norm_ Z155 (hJ0_2_4_11 (.slice (some adz_v0) y786.length co3, adz_v0, gb794) _ ⟨(sqR O0), ⟨_, rfl⟩, (sqK B0), (sqK B2), GW1.1, E1.1, N4.1, N5.1, N2.1, N3.1, (Z86 HI0 N0 N4), (Z87 GW0 GW1), (Z88 HI0 E0 E1)⟩)
        ·skip
         refine sqg func82 #[.pointer (some ⟨g, 0, none⟩), .int .i64 60] ?_
         with_reducible refine (F1.c k g s0_0 t790 60 t792 t793 w0 _ ?side1 ?side2 A5.1).mono ?_
         (case side1 => exact Z86 HI0 N0 N4)
         (case side2 => exact Z88 HI0 E0 E1)
         rintro e w16 ⟨rfl, hi, hb, hk⟩
         refine ⟨_, rfl, ?_⟩
         replace B0 := sqkb hk B0 N1
         replace O0 := sqa (Kd.R_mono (Kd.R_keep (IsS131.apart (show IsS131 w0 _ g s0_0 t790 from by repeat (first | (with_reducible first | exact HI0.1 | apply IsS131.alloc | apply IsS131.drewN | apply IsS131.drew | apply IsS131.set_1 | refine IsS131.far ?_ N0.1 _ | refine IsS131.far ?_ N4.1 _) | exact HI0.1)) (sqR O0) (by decide)) hk (fun _ h => h.2)) (fun _ h => h.1))
         replace B2 := sqkb hk B2 N5
         replace HK := sqa (KeepBut.trans (Z87 GW0 GW1) hk (.inl rfl))
         replace HB := sqa (hb)
         replace HI0 := sqa (hi)
         refine hK.out _ _ trivial (fun hHeld => ?_)
         clear hK K
         refine sqN (some 10) ?_
         refine sqP 7 (some 11) (h := ?_)
         refine sqP 8 (some 12) (h := ?_)
         exact norm_ Z155 (hJ0_2_6_11 (.slice (some adz_v0) y786.length co3, adz_v0, gb794) _ ⟨(sqR O0), ⟨_, rfl⟩, (sqK B0), (sqK B2), GW1.1, E1.1, N4.1, N5.1, N2.1, N3.1, (Z86 HI0 N0 N4), (Z87 GW0 GW1), (Z88 HI0 E0 E1)⟩)
      ·skip
       rintro ⟨v0, adz_v0⟩ w5 ⟨h0_, h1_, h2_, h3_, h4_, h5_⟩
       replace O0 : Aside0 (Kd.R (Kd.int .i64) 3 w5 w.heap.size (fun _ => True) v0 y786) := ⟨h0_⟩
       replace HA_HO0 : Aside0 (∃ c_, (v0 : Value) = .slice (some adz_v0) y786.length c_) := ⟨h1_⟩
       replace B0 : Aside0 (w5.heap[g0]? = some (.cells #[.int .i64 0, .string (⟨#[]⟩ : ByteArray)] 38 (0, 0))) := ⟨h2_⟩
       replace HI0 : Aside0 (IsS131 w0 w5 g s0_0 t793) := ⟨h3_⟩
       replace HK : Aside0 (KeepBut w w5 g none) := ⟨h4_⟩
       replace HB : Aside0 (Below w0.heap.size w0 w5) := ⟨h5_⟩
       clear h0_ h1_ h2_ h3_ h4_ h5_
       have hHeld := trivial
       obtain ⟨co3, eo3⟩ := HA_HO0.out
       clear HA_HO0
       subst eo3
       refine norm_ (a' := ?_) ?_ ?_
       rotate_left
       ·simp only [putAll, Act.put, List.setIfInBounds_toArray, List.set_cons_zero, List.set_cons_succ]
        rfl
       refine two_ (i := 4) (j := 11) (Ni := some 8) (Nj := some 3) #[true, true, true, true, true, true, true, true, true, false, false, false, false] #[true, true, true, true, false, true, true, true, true, false, false, true, false] rfl rfl rfl rfl (two_of HT_.out (by kernel_rfl)) (by decide) (by decide) (fun K hK => ?_) (fun K hK => ?_)
       ·skip
        (have p0 : 0 ≤ (t789 : Int) := of_decide_eq_true Z16; have q0 : t789 < (y786.length : Int) := of_decide_eq_true Z16; obtain ⟨ad0, e0, hx0⟩ := Kd.at_int (Kd.R_reads' O0.1).2.2 t789 p0 q0; obtain rfl : adz_v0 = ad0 := (by injection e0))
        refine value_ (w1 := ?_) (v := ?_) (by rfl) rfl ?_ ?_
        rotate_left 2
        ·go_simp
         constructor
         ·rfl
         ·rfl
        clear hx0
        refine hK.out _ _ trivial (fun hHeld => ?_)
        clear hK K
        refine sqN (some 8) ?_
        refine sqP 9 (some 13) (h := ?_)
        refine sqP 10 (some 14) (h := ?_)
        exact norm_ Z155 (hJ0_2_4_6 (.slice (some adz_v0) y786.length co3, adz_v0) _ ⟨(sqR O0), ⟨_, rfl⟩, (sqK B0), (Z85 HI0 N0), (Z83 GW0), (Z84 HI0 E0)⟩)
       ·skip
        refine box_step ?hg (N := 3) ?hd (cs := #[.int .i64 0, .string (⟨#[]⟩ : ByteArray)]) (t := 38) ?hr ?_; (case hd => rfl); (case hg => rfl); (case hr => exact Z17)
        intro gb794 hg w16 hbox hb
        replace O0 := sqU O0 hb
        replace HB := sqa (below_step (Z84 HI0 E0) hb)
        have B2 := sqa (hbox)
        have GW1 := sqa ((Z173 GW0 : w.heap.size ≤ gb794))
        have E1 := sqa ((Nat.le_trans HW0.out (Z173 GW0 : w.heap.size ≤ gb794) : w0.heap.size ≤ gb794))
        replace HK := sqa (KeepBut.trans (Z83 GW0) (KeepBut.of_below hb g none) (.inl rfl))
        obtain ⟨N2, N3⟩ := sqM hg B0
        replace B0 := sqT B0 hb
        have N4 := sqa ((Z160 HI0 N0 : g ≠ gb794))
        have N5 := sqa ((Z161 HI0 N0 : gb794 ≠ g))
        replace HI0 := sqa (IsS131.below (Z85 HI0 N0) hb)
        clear hb hbox hg
        refine hK.out _ _ trivial (fun hHeld => ?_)
        clear hK K
        refine sqN (some 3) ?_
        exact norm_ Z155 (hJ0_2_6_11 (.slice (some adz_v0) y786.length co3, adz_v0, gb794) _ ⟨(sqR O0), ⟨_, rfl⟩, (sqK B0), (sqK B2), GW1.1, E1.1, N4.1, N5.1, N2.1, N3.1, (Z86 HI0 N0 N4), (Z87 GW0 GW1), (Z88 HI0 E0 E1)⟩)
     ·skip
      rintro ⟨v0, adz_v0⟩ w6 ⟨h0_, h1_, h2_, h3_, h4_, h5_⟩
      replace O0 : Aside0 (Kd.R (Kd.int .i64) 3 w6 w.heap.size (fun _ => True) v0 y786) := ⟨h0_⟩
      replace HA_HO0 : Aside0 (∃ c_, (v0 : Value) = .slice (some adz_v0) y786.length c_) := ⟨h1_⟩
      replace B0 : Aside0 (w6.heap[g0]? = some (.cells #[.int .i64 0, .string (⟨#[]⟩ : ByteArray)] 38 (0, 0))) := ⟨h2_⟩
      replace HI0 : Aside0 (IsS131 w0 w6 g s0_0 t790) := ⟨h3_⟩
      replace HK : Aside0 (KeepBut w w6 g none) := ⟨h4_⟩
      replace HB : Aside0 (Below w0.heap.size w0 w6) := ⟨h5_⟩
      clear h0_ h1_ h2_ h3_ h4_ h5_
      have hHeld := trivial
      obtain ⟨co2, eo2⟩ := HA_HO0.out
      clear HA_HO0
      subst eo2
      refine norm_ (a' := ?_) ?_ ?_
      rotate_left
      ·simp only [putAll, Act.put, List.setIfInBounds_toArray, List.set_cons_zero, List.set_cons_succ]
       rfl
      refine two_ (i := 6) (j := 11) (Ni := some 10) (Nj := some 3) #[true, true, true, true, true, true, true, false, false, false, false, false, false] #[true, true, true, true, true, true, false, false, false, false, false, true, false] rfl rfl rfl rfl (two_of HT_.out (by kernel_rfl)) (by decide) (by decide) (fun K hK => ?_) (fun K hK => ?_)
      ·skip
       refine sqg func82 #[.pointer (some ⟨g, 0, none⟩), .int .i64 60] ?_
       with_reducible refine (F1.c k g s0_0 t790 60 t792 t793 w0 _ ?side1 ?side2 A5.1).mono ?_
       (case side1 => exact Z85 HI0 N0)
       (case side2 => exact Z84 HI0 E0)
       rintro e w15 ⟨rfl, hi, hb, hk⟩
       refine ⟨_, rfl, ?_⟩
       replace B0 := sqkb hk B0 N1
       replace O0 := sqa (Kd.R_mono (Kd.R_keep (IsS131.apart (show IsS131 w0 _ g s0_0 t790 from by repeat (first | (with_reducible first | exact HI0.1 | apply IsS131.alloc | apply IsS131.drewN | apply IsS131.drew | apply IsS131.set_1 | refine IsS131.far ?_ N0.1 _) | exact HI0.1)) (sqR O0) (by decide)) hk (fun _ h => h.2)) (fun _ h => h.1))
       replace HK := sqa (KeepBut.trans (Z83 GW0) hk (.inl rfl))
       replace HB := sqa (hb)
       replace HI0 := sqa (hi)
       refine hK.out _ _ trivial (fun hHeld => ?_)
       clear hK K
       refine sqN (some 10) ?_
       refine sqP 7 (some 11) (h := ?_)
       refine sqP 8 (some 12) (h := ?_)
       refine sqP 9 (some 13) (h := ?_)
       refine sqP 10 (some 14) (h := ?_)
       exact norm_ Z155 (hJ0_2_4_6 (.slice (some adz_v0) y786.length co2, adz_v0) _ ⟨(sqR O0), ⟨_, rfl⟩, (sqK B0), (Z85 HI0 N0), (Z83 GW0), (Z84 HI0 E0)⟩)
      ·skip
       refine box_step ?hg (N := 3) ?hd (cs := #[.int .i64 0, .string (⟨#[]⟩ : ByteArray)]) (t := 38) ?hr ?_; (case hd => rfl); (case hg => rfl); (case hr => exact Z17)
       intro gb794 hg w15 hbox hb
       replace O0 := sqU O0 hb
       replace HB := sqa (below_step (Z84 HI0 E0) hb)
       have B2 := sqa (hbox)
       have GW1 := sqa ((Z173 GW0 : w.heap.size ≤ gb794))
       have E1 := sqa ((Nat.le_trans HW0.out (Z173 GW0 : w.heap.size ≤ gb794) : w0.heap.size ≤ gb794))
       replace HK := sqa (KeepBut.trans (Z83 GW0) (KeepBut.of_below hb g none) (.inl rfl))
       obtain ⟨N2, N3⟩ := sqM hg B0
       replace B0 := sqT B0 hb
       have N4 := sqa ((Z158 HI0 N0 : g ≠ gb794))
       have N5 := sqa ((Z159 HI0 N0 : gb794 ≠ g))
       replace HI0 := sqa (IsS131.below (Z85 HI0 N0) hb)
       clear hb hbox hg
       refine hK.out _ _ trivial (fun hHeld => ?_)
       clear hK K
       refine sqN (some 3) ?_
       exact norm_ Z155 (hJ0_2_4_11 (.slice (some adz_v0) y786.length co2, adz_v0, gb794) _ ⟨(sqR O0), ⟨_, rfl⟩, (sqK B0), (sqK B2), GW1.1, E1.1, N4.1, N5.1, N2.1, N3.1, (Z86 HI0 N0 N4), (Z87 GW0 GW1), (Z88 HI0 E0 E1)⟩)
    ·skip
     rintro ⟨v0, adz_v0, gb794⟩ w15 ⟨h0_, h1_, h2_, h3_, h4_, h5_, h6_, h7_, h8_, h9_, h0, h1, h2⟩
     replace O0 : Aside0 (Kd.R (Kd.int .i64) 3 w15 w.heap.size (fun _ => True) v0 y786) := ⟨h0_⟩
     replace HA_HO0 : Aside0 (∃ c_, (v0 : Value) = .slice (some adz_v0) y786.length c_) := ⟨h1_⟩
     replace B0 : Aside0 (w15.heap[g0]? = some (.cells #[.int .i64 0, .string (⟨#[]⟩ : ByteArray)] 38 (0, 0))) := ⟨h2_⟩
     replace B2 : Aside0 (w15.heap[gb794]? = some (.cells #[.int .i64 0, .string (⟨#[]⟩ : ByteArray)] 38 (0, 0))) := ⟨h3_⟩
     replace GW1 : Aside0 (w.heap.size ≤ gb794) := ⟨h4_⟩
     replace E1 : Aside0 (w0.heap.size ≤ gb794) := ⟨h5_⟩
     replace N4 : Aside0 (g ≠ gb794) := ⟨h6_⟩
     replace N5 : Aside0 (gb794 ≠ g) := ⟨h7_⟩
     replace N2 : Aside0 (g0 ≠ gb794) := ⟨h8_⟩
     replace N3 : Aside0 (gb794 ≠ g0) := ⟨h9_⟩
     replace HI0 : Aside0 (IsS131 w0 w15 g s0_0 t793) := ⟨h0⟩
     replace HK : Aside0 (KeepBut w w15 g none) := ⟨h1⟩
     replace HB : Aside0 (Below w0.heap.size w0 w15) := ⟨h2⟩
     clear h0_ h1_ h2_ h3_ h4_ h5_ h6_ h7_ h8_ h9_ h0 h1 h2
     have hHeld := trivial
     obtain ⟨co16, eo4⟩ := HA_HO0.out
     clear HA_HO0
     subst eo4
     refine norm_ (a' := ?_) ?_ ?_
     rotate_left
     ·simp only [putAll, Act.put, List.setIfInBounds_toArray, List.set_cons_zero, List.set_cons_succ]
      rfl
     refine sq1 4 (some 8) (h := fun K hK => ?_)
     (have p0 : 0 ≤ (t789 : Int) := of_decide_eq_true Z16; have q0 : t789 < (y786.length : Int) := of_decide_eq_true Z16; obtain ⟨ad0, e0, hx0⟩ := Kd.at_int (Kd.R_reads' O0.1).2.2 t789 p0 q0; obtain rfl : adz_v0 = ad0 := (by injection e0))
     refine value_ (w1 := ?_) (v := ?_) (by rfl) rfl ?_ ?_
     rotate_left 2
     ·go_simp
      constructor
      ·rfl
      ·rfl
     clear hx0
     refine hK.out _ _ trivial (fun hHeld => ?_)
     clear hK K
     refine sqN (some 8) ?_
     refine sqP 9 (some 13) (h := ?_)
     refine sqP 10 (some 14) (h := ?_)
     exact norm_ Z155 (hJ0_2_4_6_11 (.slice (some adz_v0) y786.length co16, adz_v0, gb794) _ ⟨(sqR O0), ⟨_, rfl⟩, (sqK B0), (sqK B2), GW1.1, E1.1, N4.1, N5.1, N2.1, N3.1, (Z86 HI0 N0 N4), (Z87 GW0 GW1), (Z88 HI0 E0 E1)⟩)
   ·skip
    rintro ⟨v0, adz_v0, gb794⟩ w5 ⟨h0_, h1_, h2_, h3_, h4_, h5_, h6_, h7_, h8_, h9_, h0, h1, h2⟩
    replace O0 : Aside0 (Kd.R (Kd.int .i64) 3 w5 w.heap.size (fun _ => True) v0 y786) := ⟨h0_⟩
    replace HA_HO0 : Aside0 (∃ c_, (v0 : Value) = .slice (some adz_v0) y786.length c_) := ⟨h1_⟩
    replace B0 : Aside0 (w5.heap[g0]? = some (.cells #[.int .i64 0, .string (⟨#[]⟩ : ByteArray)] 38 (0, 0))) := ⟨h2_⟩
    replace B2 : Aside0 (w5.heap[gb794]? = some (.cells #[.int .i64 0, .string (⟨#[]⟩ : ByteArray)] 38 (0, 0))) := ⟨h3_⟩
    replace GW1 : Aside0 (w.heap.size ≤ gb794) := ⟨h4_⟩
    replace E1 : Aside0 (w0.heap.size ≤ gb794) := ⟨h5_⟩
    replace N4 : Aside0 (g ≠ gb794) := ⟨h6_⟩
    replace N5 : Aside0 (gb794 ≠ g) := ⟨h7_⟩
    replace N2 : Aside0 (g0 ≠ gb794) := ⟨h8_⟩
    replace N3 : Aside0 (gb794 ≠ g0) := ⟨h9_⟩
    replace HI0 : Aside0 (IsS131 w0 w5 g s0_0 t790) := ⟨h0⟩
    replace HK : Aside0 (KeepBut w w5 g none) := ⟨h1⟩
    replace HB : Aside0 (Below w0.heap.size w0 w5) := ⟨h2⟩
    clear h0_ h1_ h2_ h3_ h4_ h5_ h6_ h7_ h8_ h9_ h0 h1 h2
    have hHeld := trivial
    obtain ⟨co3, eo3⟩ := HA_HO0.out
    clear HA_HO0
    subst eo3
    refine norm_ (a' := ?_) ?_ ?_
    rotate_left
    ·simp only [putAll, Act.put, List.setIfInBounds_toArray, List.set_cons_zero, List.set_cons_succ]
     rfl
    refine sq1 6 (some 10) (h := fun K hK => ?_)
    refine sqg func82 #[.pointer (some ⟨g, 0, none⟩), .int .i64 60] ?_
    with_reducible refine (F1.c k g s0_0 t790 60 t792 t793 w0 _ ?side1 ?side2 A5.1).mono ?_
    (case side1 => exact Z86 HI0 N0 N4)
    (case side2 => exact Z88 HI0 E0 E1)
    rintro e w16 ⟨rfl, hi, hb, hk⟩
    refine ⟨_, rfl, ?_⟩
    replace B0 := sqkb hk B0 N1
    replace O0 := sqa (Kd.R_mono (Kd.R_keep (IsS131.apart (show IsS131 w0 _ g s0_0 t790 from by repeat (first | (with_reducible first | exact HI0.1 | apply IsS131.alloc | apply IsS131.drewN | apply IsS131.drew | apply IsS131.set_1 | refine IsS131.far ?_ N0.1 _ | refine IsS131.far ?_ N4.1 _) | exact HI0.1)) (sqR O0) (by decide)) hk (fun _ h => h.2)) (fun _ h => h.1))
    replace B2 := sqkb hk B2 N5
    replace HK := sqa (KeepBut.trans (Z87 GW0 GW1) hk (.inl rfl))
    replace HB := sqa (hb)
    replace HI0 := sqa (hi)
    refine hK.out _ _ trivial (fun hHeld => ?_)
    clear hK K
    refine sqN (some 10) ?_
    refine sqP 7 (some 11) (h := ?_)
    refine sqP 8 (some 12) (h := ?_)
    refine sqP 9 (some 13) (h := ?_)
    refine sqP 10 (some 14) (h := ?_)
    exact norm_ Z155 (hJ0_2_4_6_11 (.slice (some adz_v0) y786.length co3, adz_v0, gb794) _ ⟨(sqR O0), ⟨_, rfl⟩, (sqK B0), (sqK B2), GW1.1, E1.1, N4.1, N5.1, N2.1, N3.1, (Z86 HI0 N0 N4), (Z87 GW0 GW1), (Z88 HI0 E0 E1)⟩)
  ·skip
   rintro ⟨v0, adz_v0⟩ w5 ⟨h0_, h1_, h2_, h3_, h4_, h5_⟩
   replace O0 : Aside0 (Kd.R (Kd.int .i64) 3 w5 w.heap.size (fun _ => True) v0 y786) := ⟨h0_⟩
   replace HA_HO0 : Aside0 (∃ c_, (v0 : Value) = .slice (some adz_v0) y786.length c_) := ⟨h1_⟩
   replace B0 : Aside0 (w5.heap[g0]? = some (.cells #[.int .i64 0, .string (⟨#[]⟩ : ByteArray)] 38 (0, 0))) := ⟨h2_⟩
   replace HI0 : Aside0 (IsS131 w0 w5 g s0_0 t793) := ⟨h3_⟩
   replace HK : Aside0 (KeepBut w w5 g none) := ⟨h4_⟩
   replace HB : Aside0 (Below w0.heap.size w0 w5) := ⟨h5_⟩
   clear h0_ h1_ h2_ h3_ h4_ h5_
   have hHeld := trivial
   obtain ⟨co3, eo3⟩ := HA_HO0.out
   clear HA_HO0
   subst eo3
   refine norm_ (a' := ?_) ?_ ?_
   rotate_left
   ·simp only [putAll, Act.put, List.setIfInBounds_toArray, List.set_cons_zero, List.set_cons_succ]
    rfl
   refine sq1 11 (some 3) (h := fun K hK => ?_)
   refine box_step ?hg (N := 3) ?hd (cs := #[.int .i64 0, .string (⟨#[]⟩ : ByteArray)]) (t := 38) ?hr ?_; (case hd => rfl); (case hg => rfl); (case hr => exact Z17)
   intro gb794 hg w16 hbox hb
   replace O0 := sqU O0 hb
   replace HB := sqa (below_step (Z84 HI0 E0) hb)
   have B2 := sqa (hbox)
   have GW1 := sqa ((Z173 GW0 : w.heap.size ≤ gb794))
   have E1 := sqa ((Nat.le_trans HW0.out (Z173 GW0 : w.heap.size ≤ gb794) : w0.heap.size ≤ gb794))
   replace HK := sqa (KeepBut.trans (Z83 GW0) (KeepBut.of_below hb g none) (.inl rfl))
   obtain ⟨N2, N3⟩ := sqM hg B0
   replace B0 := sqT B0 hb
   have N4 := sqa ((Z160 HI0 N0 : g ≠ gb794))
   have N5 := sqa ((Z161 HI0 N0 : gb794 ≠ g))
   replace HI0 := sqa (IsS131.below (Z85 HI0 N0) hb)
   clear hb hbox hg
   refine hK.out _ _ trivial (fun hHeld => ?_)
   clear hK K
   refine sqN (some 3) ?_
   exact norm_ Z155 (hJ0_2_4_6_11 (.slice (some adz_v0) y786.length co3, adz_v0, gb794) _ ⟨(sqR O0), ⟨_, rfl⟩, (sqK B0), (sqK B2), GW1.1, E1.1, N4.1, N5.1, N2.1, N3.1, (Z86 HI0 N0 N4), (Z87 GW0 GW1), (Z88 HI0 E0 E1)⟩)
 rintro ⟨v0, adz_v0, gb794⟩ w15 ⟨h0_, h1_, h2_, h3_, h4_, h5_, h6_, h7_, h8_, h9_, h0, h1, h2⟩
 replace O0 : Aside0 (Kd.R (Kd.int .i64) 3 w15 w.heap.size (fun _ => True) v0 y786) := ⟨h0_⟩
 replace HA_HO0 : Aside0 (∃ c_, (v0 : Value) = .slice (some adz_v0) y786.length c_) := ⟨h1_⟩
 replace B0 : Aside0 (w15.heap[g0]? = some (.cells #[.int .i64 0, .string (⟨#[]⟩ : ByteArray)] 38 (0, 0))) := ⟨h2_⟩
 replace B2 : Aside0 (w15.heap[gb794]? = some (.cells #[.int .i64 0, .string (⟨#[]⟩ : ByteArray)] 38 (0, 0))) := ⟨h3_⟩
 replace GW1 : Aside0 (w.heap.size ≤ gb794) := ⟨h4_⟩
 replace E1 : Aside0 (w0.heap.size ≤ gb794) := ⟨h5_⟩
 replace N4 : Aside0 (g ≠ gb794) := ⟨h6_⟩
 replace N5 : Aside0 (gb794 ≠ g) := ⟨h7_⟩
 replace N2 : Aside0 (g0 ≠ gb794) := ⟨h8_⟩
 replace N3 : Aside0 (gb794 ≠ g0) := ⟨h9_⟩
 replace HI0 : Aside0 (IsS131 w0 w15 g s0_0 t793) := ⟨h0⟩
 replace HK : Aside0 (KeepBut w w15 g none) := ⟨h1⟩
 replace HB : Aside0 (Below w0.heap.size w0 w15) := ⟨h2⟩
 clear h0_ h1_ h2_ h3_ h4_ h5_ h6_ h7_ h8_ h9_ h0 h1 h2
 have hHeld := trivial
 obtain ⟨co16, eo4⟩ := HA_HO0.out
 clear HA_HO0
 subst eo4
 refine norm_ (a' := ?_) ?_ ?_
 rotate_left
 ·simp only [putAll, Act.put, List.setIfInBounds_toArray, List.set_cons_zero, List.set_cons_succ]
  rfl
 refine sq1 12 none (h := fun K hK => ?_)
 have := sqY2 B2
 have := sqn2 N2 N3
 refine skip_ (w1 := ?_) (by rfl) rfl ?_ ?_
 rotate_left
 ·go_simp
  rfl
 refine hK.out _ _ trivial (fun hHeld => ?_)
 clear hK K
 refine done_ (done_of HT_.out (by kernel_rfl)) ?_
 have := sqn4 N3 N2 N5 N4
 have := sqY2 B2
 go_upto_block 0 with (fail)
 go_cut [] (fun wc => ∃ (kq : Nat) (x0 : Int) (x1 : ByteArray), Aside0 (F17.j0 kq s0_0 x0 (wrap64 ((rd y786 t789) + (wrap64 ((wrap64 (Int.tdiv t792 59)) * 5)))) x1 = some (r1, r2, r3)) ∧ Aside0 (kq ≤ k) ∧ Aside0 (wc.heap[g0]? = some (.cells #[.int .i64 0, .string (⟨#[]⟩ : ByteArray)] 38 (0, 0))) ∧ Aside0 (wc.heap[gb794]? = some (.cells #[.int .i64 (wrap64 ((rd y786 t789) + (wrap64 ((wrap64 (Int.tdiv t792 59)) * 5)))), .string x1] 38 (0, 0))) ∧ Aside0 (IsS131 w0 wc g s0_0 x0) ∧ Aside0 (KeepBut w wc g none) ∧ Aside0 (Below w0.heap.size w0 wc))
 case first =>
  have H := HC6.1
  clear HC6
  obtain ⟨c1, c2, H⟩ | ⟨c1, c2, c0, H⟩ := sqi4 H
  ·(first | rw [c1] | (simp only [i64_w, i32_w]; rw [c1]) | skip)
   obtain ⟨⟨t1, t2⟩, A0, H⟩ := sqD H
   try dsimp only at H
   have H' := sqa H
   clear H
   go_wp2_with (first | ((with_reducible refine sqc 114 rfl ?_); refine sqvs (some 20) func114 (args := #[.pointer (some ⟨g, 0, none⟩), .int .i64 6, .int .i64 20]) (F52.c k g s0_0 t793 6 20 t1 t2 w0 _ (Z86 HI0 N0 N4) (Z88 HI0 E0 E1) A0.1) fun w24 hi hb hk => ?_; replace B0 := sqa (KeepBut.blk hk (g' := g0) (o := .cells #[.int .i64 0, .string (⟨#[]⟩ : ByteArray)] 38 (0, 0)) (Z9 N2 B0) N1.1 (by simp)); replace O0 := sqa (Kd.R_mono (Kd.R_keep (IsS131.apart (show IsS131 w0 _ g s0_0 t793 from by repeat (first | (with_reducible first | exact HI0.1 | apply IsS131.alloc | apply IsS131.drewN | apply IsS131.drew | apply IsS131.set_1 | refine IsS131.far ?_ N0.1 _ | refine IsS131.far ?_ N4.1 _) | exact HI0.1)) (Z162 O0 B2) (by decide)) hk (fun _ h => h.2)) (fun _ h => h.1)); replace B2 := sqa (KeepBut.blk hk (g' := gb794) (o := .cells #[.int .i64 (wrap64 ((rd y786 t789) + (wrap64 ((wrap64 (Int.tdiv t792 59)) * 5)))), .string (⟨#[]⟩ : ByteArray)] 38 (0, 0)) (Z163 B2) N5.1 (by simp)); replace HK := sqa (KeepBut.trans (Z87 GW0 GW1) hk (.inl rfl)); replace HB := sqa (hb); replace HI0 := sqa (hi); have := sqn4 N3 N2 N5 N4; have hcz0 : w24.cell? ⟨gb794, 0, none⟩ = some (.int .i64 (wrap64 ((rd y786 t789) + (wrap64 ((wrap64 (Int.tdiv t792 59)) * 5))))) := (blk_cell B2.1 0).trans rfl; have hcz1 := sqZ B2 1 (.string (⟨#[]⟩ : ByteArray)); have hfz0 := blk_frozen B2.1 0; have hfz1 := blk_frozen B2.1 1))
   go_meet
   case rel => exact ⟨_, (t2), (t1), H', ⟨Z11⟩, ⟨Z3 N2 B0⟩, ⟨Z164 B2⟩, ⟨Z86 HI0 N0 N4⟩, ⟨Z87 GW0 GW1⟩, ⟨Z88 HI0 E0 E1⟩⟩
  (first | rw [c1] | (simp only [i64_w, i32_w]; rw [c1]) | skip)
  obtain ⟨c6, c7, H⟩ | ⟨c6, c7, c5, H⟩ := sqi4 H
  ·obtain ⟨⟨t3, t4, t5⟩, A1, H⟩ := sqD H
   try dsimp only at H
   obtain ⟨t0, A3, H⟩ := sqD H
   have H' := sqa H
   clear H
   go_wp2_with (first | ((with_reducible refine sqc 115 rfl ?_); refine sqvs (some 25) func115 (args := #[.pointer (some ⟨g, 0, none⟩)]) (F87.c k g s0_0 t793 t3 t4 t5 w0 _ (Z86 HI0 N0 N4) (Z88 HI0 E0 E1) A1.1) fun w31 hi hb hk => ?_; replace B0 := sqa (KeepBut.blk hk (g' := g0) (o := .cells #[.int .i64 0, .string (⟨#[]⟩ : ByteArray)] 38 (0, 0)) (Z9 N2 B0) N1.1 (by simp)); replace O0 := sqa (Kd.R_mono (Kd.R_keep (IsS131.apart (show IsS131 w0 _ g s0_0 t793 from by repeat (first | (with_reducible first | exact HI0.1 | apply IsS131.alloc | apply IsS131.drewN | apply IsS131.drew | apply IsS131.set_1 | refine IsS131.far ?_ N0.1 _ | refine IsS131.far ?_ N4.1 _) | exact HI0.1)) (Z162 O0 B2) (by decide)) hk (fun _ h => h.2)) (fun _ h => h.1)); replace B2 := sqa (KeepBut.blk hk (g' := gb794) (o := .cells #[.int .i64 (wrap64 ((rd y786 t789) + (wrap64 ((wrap64 (Int.tdiv t792 59)) * 5)))), .string (⟨#[]⟩ : ByteArray)] 38 (0, 0)) (Z163 B2) N5.1 (by simp)); replace HK := sqa (KeepBut.trans (Z87 GW0 GW1) hk (.inl rfl)); replace HB := sqa (hb); replace HI0 := sqa (hi)) | ((with_reducible refine sqc 89 rfl ?_); refine sqv (some 26) func89 (F19.c k t3 t4 t0 _ A3.1) fun w32 hb => ?_; replace O0 := sqU O0 hb; obtain ⟨B0, B2⟩ := sqT2 hb B0 B2; replace HK := sqa (KeepBut.trans (Z87 GW0 GW1) (KeepBut.of_below hb g none) (.inl rfl)); replace HB := sqa (below_step (Z88 HI0 E0 E1) hb); replace HI0 := sqa (IsS131.below (Z86 HI0 N0 N4) hb); have := sqn4 N3 N2 N5 N4; have hcz2 : w32.cell? ⟨gb794, 0, none⟩ = some (.int .i64 (wrap64 ((rd y786 t789) + (wrap64 ((wrap64 (Int.tdiv t792 59)) * 5))))) := (blk_cell B2.1 0).trans rfl; have hcz3 := sqZ B2 1 (.string (⟨#[]⟩ : ByteArray)); have hfz2 := blk_frozen B2.1 0; have hfz3 := blk_frozen B2.1 1))
   go_meet
   case rel => exact ⟨_, (t5), (t0), H', ⟨Z11⟩, ⟨Z3 N2 B0⟩, ⟨Z164 B2⟩, ⟨Z86 HI0 N0 N4⟩, ⟨Z87 GW0 GW1⟩, ⟨Z88 HI0 E0 E1⟩⟩
  have H' := sqa H
  clear H
  go_wp2
  go_meet
  case rel => exact ⟨_, (t793), ((⟨#[]⟩ : ByteArray)), H', ⟨Z11⟩, ⟨Z9 N2 B0⟩, ⟨Z163 B2⟩, ⟨Z86 HI0 N0 N4⟩, ⟨Z87 GW0 GW1⟩, ⟨Z88 HI0 E0 E1⟩⟩
 case rest =>
  clear HC6
  obtain ⟨kq, x0, x1, HA, HJ5, B0, B2, HI0, HK, HB⟩ := hcut
  cases kq with
  | zero => exact absurd HA.out (by simp [F17.j0])
  | succ kj5 =>
   have H := HA.out
   clear HA
   simp only [F17.j0] at H
   obtain ⟨⟨t6, t7⟩, A4, H⟩ := sqD H
   try dsimp only at H
   obtain rfl | rfl := sqt t6
   ·rw [if_pos rfl] at H
    obtain ⟨c8, c9, c10, H⟩ := sqJ5 H
    try have c11 : (9223372036854775807 < x1.size + 1) = False := eq_false (Nat.not_lt.2 c8)
    obtain ⟨rfl, rfl, rfl⟩ := sqO3 H
    go_wp2_with (first | ((with_reducible refine sqc 74 rfl ?_); refine sqvs (some 29) func74 (args := #[.pointer (some ⟨g, 0, none⟩), .int .i64 40]) (F28.c kj5 g s0_0 x0 40 true t7 w0 _ (Z86 HI0 N0 N4) (Z88 HI0 E0 E1) A4.1) fun w39 hi hb hk => ?_; replace B0 := sqkb hk B0 N1; replace B2 := sqkb hk B2 N5; replace HK := sqa (KeepBut.trans (Z87 GW0 GW1) hk (.inl rfl)); replace HB := sqa (hb); replace HI0 := sqa (hi); have := sqn4 N3 N2 N5 N4; have hcz4 : w39.cell? ⟨gb794, 0, none⟩ = some (.int .i64 (wrap64 ((rd y786 t789) + (wrap64 ((wrap64 (Int.tdiv t792 59)) * 5))))) := (blk_cell B2.1 0).trans rfl; have hcz5 := sqZ B2 1 (.string x1); have hfz4 := blk_frozen B2.1 0; have hfz5 := blk_frozen B2.1 1; have := sqn2 N1 N0; have := sqY2 B0))
    refine bodyPost_ret (results_cell_row rfl _ _ g0 38 #[.int .i64 (wrap64 ((rd y786 t789) + (wrap64 ((wrap64 (Int.tdiv t792 59)) * 5)))), .string (x1 ++ (⟨#[120]⟩ : ByteArray))] (0, 0) _ rfl (by refine sqPut (cs := #[.int .i64 (wrap64 ((rd y786 t789) + (wrap64 ((wrap64 (Int.tdiv t792 59)) * 5)))), .string (⟨#[]⟩ : ByteArray)]) ?_ 1; refine sqPut (cs := #[.int .i64 0, .string (⟨#[]⟩ : ByteArray)]) ?_ 0; refine sqFar ?_ N2; exact sqK B0) underlying38 rfl (by kernel_rfl)) rfl ?_
    exact ⟨Z5, Z86 HI0 N0 N4, Z88 HI0 E0 E1, Z87 GW0 GW1⟩
   rw [if_neg sqF] at H
   obtain ⟨rfl, rfl, rfl⟩ := sqO3 H
   go_wp2_with (first | ((with_reducible refine sqc 74 rfl ?_); refine sqvs (some 29) func74 (args := #[.pointer (some ⟨g, 0, none⟩), .int .i64 40]) (F28.c kj5 g s0_0 x0 40 false t7 w0 _ (Z86 HI0 N0 N4) (Z88 HI0 E0 E1) A4.1) fun w45 hi hb hk => ?_; replace B0 := sqkb hk B0 N1; replace B2 := sqkb hk B2 N5; replace HK := sqa (KeepBut.trans (Z87 GW0 GW1) hk (.inl rfl)); replace HB := sqa (hb); replace HI0 := sqa (hi); have := sqn4 N3 N2 N5 N4; have hcz6 : w45.cell? ⟨gb794, 0, none⟩ = some (.int .i64 (wrap64 ((rd y786 t789) + (wrap64 ((wrap64 (Int.tdiv t792 59)) * 5))))) := (blk_cell B2.1 0).trans rfl; have hcz7 := sqZ B2 1 (.string x1); have hfz6 := blk_frozen B2.1 0; have hfz7 := blk_frozen B2.1 1; have := sqn2 N1 N0; have := sqY2 B0))
   refine sqEr g0 38 #[.int .i64 (wrap64 ((rd y786 t789) + (wrap64 ((wrap64 (Int.tdiv t792 59)) * 5)))), .string x1] (Z163 B0) underlying38 ?_
   exact ⟨Z5, Z86 HI0 N0 N4, Z88 HI0 E0 E1, Z87 GW0 GW1⟩

end Go.Proofs.YtofmlbgfcohhoaaGreatDoor.PFnDeskSay
