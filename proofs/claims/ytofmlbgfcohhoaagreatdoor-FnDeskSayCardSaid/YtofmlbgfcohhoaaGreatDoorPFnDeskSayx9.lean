import Derived.Test.YtofmlbgfcohhoaaGreatDoorPFnDeskSayx8
set_option maxHeartbeats 8000000
set_option maxRecDepth 100000
namespace Go.Proofs.YtofmlbgfcohhoaaGreatDoor.PFnDeskSay
open Go.RowKit Go.Proofs.YtofmlbgfcohhoaaGreatDoorW.PrintWords Go.Proofs.YtofmlbgfcohhoaaGreatDoorW.PrintLast Go.Proofs.YtofmlbgfcohhoaaGreatDoorW.PrintMore Go.Proofs.YtofmlbgfcohhoaaGreatDoor.Lib Go.Proofs.Tryz
attribute [local go_sem] max2_int min2_int max_two min_two max_three min_three max_four min_four   -- for this text's walks alone
set_option linter.unusedVariables false
set_option linter.unusedSimpArgs false

def F71.f (k : Nat) (a0_0 : Int) (a0_1 : Int) : Option (List Int × Bool) := (F39.f k a0_0 a0_1 60).bind fun t0 => (if t0 = true then (if a0_1 = 0 then (some (([] : List Int), false)) else ((F49.f k a0_0 a0_1).bind fun t1 => (some (t1, true)))) else (some (([] : List Int), false)))
theorem F71.c (k : Nat) (a0_0 : Int) (a0_1 : Int) (r1 : List Int) (r2 : Bool) (w : World) (H : F71.f k a0_0 a0_1 = some (r1, r2)) :
  Calls prog 142 #[.agg #[.int .i64 a0_0, .int .i64 a0_1]] w fun e w' => ∃ v0_ : Value, e = .returned (.tuple #[v0_, .bool r2]) ∧ Kd.R (Kd.int .i64) 3 w' w.heap.size (fun _ => True) v0_ r1 ∧ Below w.heap.size w w' := by
 have hu31 := underlying31
 have HB := sqh w
 unfold F71.f at H
 obtain ⟨t0, A2, H⟩ := sqD H
 obtain rfl | rfl := sqt t0
 ·rw [if_pos rfl] at H
  obtain ⟨c4b0, c4b1, H⟩ | ⟨c4b0, c4b1, c4, H⟩ := sqi4 H
  ·obtain ⟨rfl, rfl⟩ := sqO2 H
   go_enter func142, ntmps142
   go_wp2_with (first | ((with_reducible refine sqd 1 rfl ?_); refine sqx0 w (sqB HB) #[.int .i64 a0_0, .int .i64 a0_1] 31 fun g0 w5 B0 E0 HB => ?_; have := sqY2 B0) | ((with_reducible refine sqc 104 rfl ?_); refine sqv (some 5) func104 (F39.c k a0_0 a0_1 60 true _ A2.1) fun w7 hb => ?_; replace B0 := sqT B0 hb; replace HB := sqS (sqB1 HB E0) hb; have := sqY2 B0))
   go_ret2
   exact ⟨_, Z5, Z47, sqB1 HB E0⟩
  obtain ⟨t1, A9, H⟩ := sqD H
  obtain ⟨rfl, rfl⟩ := sqO2 H
  go_enter func142, ntmps142
  go_wp2_with (first | ((with_reducible refine sqd 1 rfl ?_); refine sqx0 w (sqB HB) #[.int .i64 a0_0, .int .i64 a0_1] 31 fun g0 w0 B0 E0 HB => ?_; have := sqY2 B0) | ((with_reducible refine sqc 104 rfl ?_); refine sqv (some 5) func104 (F39.c k a0_0 a0_1 60 true _ A2.1) fun w1 hb => ?_; replace B0 := sqT B0 hb; replace HB := sqS (sqB1 HB E0) hb; have := sqY2 B0) | ((with_reducible refine sqc 165 rfl ?_); refine sqvo (some 13) func165 (F49.c k a0_0 a0_1 t1 _ A9.1) fun v0 w2 ho0 hb => ?_; have O0 := sqL ho0 (sqB1 HB E0); replace B0 := sqT B0 hb; replace HB := sqS (sqB1 HB E0) hb; (try clear ho0)))
  go_ret2
  exact ⟨_, Z5, Z26 O0, sqB1 HB E0⟩
 rw [if_neg sqF] at H
 obtain ⟨rfl, rfl⟩ := sqO2 H
 go_enter func142, ntmps142
 go_wp2_with (first | ((with_reducible refine sqd 1 rfl ?_); refine sqx0 w (sqB HB) #[.int .i64 a0_0, .int .i64 a0_1] 31 fun g0 w3 B0 E0 HB => ?_; have := sqY2 B0) | ((with_reducible refine sqc 104 rfl ?_); refine sqv (some 5) func104 (F39.c k a0_0 a0_1 60 false _ A2.1) fun w4 hb => ?_; replace B0 := sqT B0 hb; replace HB := sqS (sqB1 HB E0) hb))
 go_ret2
 exact ⟨_, Z5, Z47, sqB1 HB E0⟩

-- given: function 166 (strings_Join)

def F29.l0 : Nat → List ByteArray → List Int → Int → Int → Option (ByteArray)
 | 0, _, _, _, _ => none
 | k + 1, x3, x7, x8, x9 => if x9 < x8 then (if 0 ≤ x9 then (if x9 < (x7.length : Int) then ((strconv_Itoa.f (rd x7 x9)).bind fun t0 => (if x3.length < 8796093022208 then (F29.l0 k (x3 ++ [t0]) x7 x8 (wrap64 (x9 + 1))) else (none))) else (none)) else (none)) else ((strings_Join.f x3 (⟨#[44]⟩ : ByteArray)).bind fun t1 => (some t1))
def F29.f (k : Nat) (l0 : List Int) : Option (ByteArray) := F29.l0 k (([] : List ByteArray)) l0 (l0.length : Int) 0
theorem F29.c (k : Nat) (A0 : Option Addr) (c0 : Nat) (l0 : List Int) (r : ByteArray) (w : World) (hG : Glob w) (hr0 : Kd.C (Kd.int .i64) w A0 l0.length l0) (hc0 : l0.length ≤ c0) (H : F29.f k l0 = some r) :
  Calls prog 143 #[.slice A0 l0.length c0] w fun e w' => e = .returned (.string r) ∧ Below w.heap.size w w' := by
 have HR0 := sqa hr0
 have HC0 := sqa hc0
 clear hr0 hc0
 have HB := sqh w
 unfold F29.f at H
 obtain ⟨y0, hy0⟩ : ∃ y_ : List ByteArray, y_ = (([] : List ByteArray)) := ⟨_, rfl⟩
 replace H : (F29.l0 k y0 l0 (l0.length : Int) 0) = some r := sqW hy0 H
 have Ny0 := sqa hy0
 clear hy0
 have H' := sqa H
 clear H
 go_enter func143, ntmps143
 go_wp2_with (first | ((with_reducible refine sqd 6 rfl ?_); refine Kd.R_lit Kd.string _ 9 ?hg (N := 6) ?hd (xs := ([] : List ByteArray)) (inner := []) (ok := fun _ => True) (okp := fun _ => True) ?hr ?hp (fun _ hk => hk) trivial (Below.refl _ _) (Nat.le_refl _) (by simp) ?_; (case hd => rfl); (case hg => rfl); (case hr => exact Z17); (case hp => exact Z24); intro v0 w2 ho3 hb hg_ hnew_; clear hg_ hnew_; (first | rw [← Ny0.out] at ho3 | (simp only [Int.reduceToNat] at ho3; rw [← Ny0.out] at ho3)); have O0 := sqL ho3 (sqB HB); replace HB := sqS (sqB HB) hb; clear hb ho3))
 go_loopg [3, 9] k (fun kq v3 v9 w' => ∃ (x3_1 : List ByteArray) (x9_1 : Int), v9 = .int .i64 x9_1 ∧ Aside0 (F29.l0 kq x3_1 l0 (l0.length : Int) x9_1 = some r) ∧ Aside0 (kq ≤ k) ∧ Aside0 (Kd.R Kd.string 9 w' w.heap.size (fun _ => True) v3 x3_1) ∧ Aside0 (Below w.heap.size w w'))
 case atStart => exact ⟨(y0), (0), Z1, H', ⟨Nat.le_refl _⟩, ⟨sqR O0⟩, ⟨sqB HB⟩⟩
 case round =>
  clear H'
  obtain ⟨x3_1, x9_1, rfl, HA, HK1, O1, HB⟩ := hrel
  cases gk with
  | zero => exact absurd HA.out (by simp [F29.l0])
  | succ k1 =>
   have H := HA.out
   clear HA
   simp only [F29.l0] at H
   obtain ⟨c4b0, H⟩ | ⟨c4b0, H⟩ := sqi3 H
   ·obtain ⟨c5b0, H⟩ := sqJ2 H
    obtain ⟨c6b0, H⟩ := sqJ2 H
    obtain ⟨t0, A7, H⟩ := sqD H
    obtain ⟨c8, H⟩ := sqI H
    have LMc8 := sqa c8
    clear c8
    obtain ⟨y1, hy1⟩ : ∃ y_ : List ByteArray, y_ = (x3_1 ++ [t0]) := ⟨_, rfl⟩
    replace H : (F29.l0 k1 y1 l0 (l0.length : Int) (wrap64 (x9_1 + 1))) = some r := sqW hy1 H
    have Ny1 := sqa hy1
    clear hy1
    have H' := sqa H
    clear H
    have p0 : 0 ≤ (x9_1 : Int) := of_decide_eq_true Z16
    have q0 : x9_1 < (l0.length : Int) := of_decide_eq_true Z16
    obtain ⟨ad0, e0, hx0⟩ := Kd.at_int HR0.1 x9_1 p0 q0
    cases e0
    replace hx0 := (HB.1.cell (World.block_lt_of_cell? w _ hx0)).trans hx0
    replace p0 := eq_true p0
    replace q0 := eq_true q0
    go_wp2_with (first | ((with_reducible refine sqc 144 rfl ?_); refine sqv (some 15) func144 (args := #[.int .i64 (rd l0 x9_1)]) (strconv_Itoa.calls (rd l0 x9_1) t0 _ (Glob.below hG (sqB HB)) A7.1) fun w9 hb => ?_; replace O1 := sqU O1 hb; replace HB := sqS (sqB HB) hb) | ((with_reducible refine gate_builtin (b := .append) (xs := #[.tmp 13, .tmp 16]) rfl ?_); at_builtin; refine Kd.R_append Kd.string (w0 := w) w.heap.size rfl (.tmp 13) (.tmp 16) 73 9 (.string ⟨#[]⟩) 16 rfl underlying73 info9 rfl (by decide) (by omega) u3 x3_1 t0 [.string t0] (fun _ => True) (fun _ => False) rfl rfl ?aP (fun _ hk => hk.elim) ?aF ?aO ?aB ?aS ?aL ?_; (case aP => exact rfl); (case aB => exact (sqB HB)); (case aF => exact Z25); (case aO => exact (sqR O1)); (case aS => exact (below_size (sqB HB))); (case aL => exact Z2 LMc8); intro v1 w1 ho hb hg hat; rw [← Ny1.out] at ho; replace HB := sqa (hb); have O2 := sqa (ho); clear O1; clear ho hb hg hat))
    go_roundg k1
    case measure => have := HK1.out; omega
    case rel => exact ⟨(y1), (wrap64 (x9_1 + 1)), Z1, H', ⟨Z2 HK1⟩, ⟨sqR O2⟩, ⟨sqB HB⟩⟩
   obtain ⟨t1, A1, H⟩ := sqD H
   obtain rfl := sqo H
   obtain ⟨Ao0, co0, eo0⟩ := Kd.R_slice O1.1
   subst eo0
   go_wp2_with (first | ((with_reducible refine sqc 166 rfl ?_); refine sqv (some 20) func166 (args := #[.slice Ao0 x3_1.length co0, .string (⟨#[44]⟩ : ByteArray)]) (strings_Join.calls _ _ x3_1 (⟨#[44]⟩ : ByteArray) t1 _ (Z7 O1) (spot_of O1.1) A1.1) fun w3 hb => ?_; replace O1 := sqU O1 hb; replace HB := sqS (sqB HB) hb))
   go_ret
   exact ⟨Z5, sqB HB⟩

def F34.l0 : Nat → List Int → Int → Int → Option (List Int)
 | 0, _, _, _ => none
 | k + 1, x3, x4, x5 => if x5 > 0 then (if x5 = 0 then (none) else (if x3.length < 17592186044416 then (F34.l0 k (x3 ++ [wrap64 (Int.tdiv x4 x5)]) x5 (Int.tmod x4 x5)) else (none))) else (some x3)
def F34.f (k : Nat) (a0_0 : Int) (a0_1 : Int) : Option (List Int) := F34.l0 k (([] : List Int)) (mx a0_0 (wrap64 (-a0_0))) a0_1
theorem F34.c (k : Nat) (a0_0 : Int) (a0_1 : Int) (r : List Int) (w : World) (H : F34.f k a0_0 a0_1 = some r) :
  Calls prog 168 #[.agg #[.int .i64 a0_0, .int .i64 a0_1]] w fun e w' => ∃ v0_ : Value, e = .returned (v0_) ∧ Kd.R (Kd.int .i64) 3 w' w.heap.size (fun _ => True) v0_ r ∧ Below w.heap.size w w' := by
 have hu31 := underlying31
 have HB := sqh w
 unfold F34.f at H
 obtain ⟨y0, hy0⟩ : ∃ y_ : List Int, y_ = (([] : List Int)) := ⟨_, rfl⟩
 replace H : (F34.l0 k y0 (mx a0_0 (wrap64 (-a0_0))) a0_1) = some r := sqW hy0 H
 have Ny0 := sqa hy0
 clear hy0
 obtain ⟨ji2, hji2⟩ : ∃ j_ : Int, (mx a0_0 (wrap64 (-a0_0))) = j_ := ⟨_, rfl⟩
 replace H : (F34.l0 k y0 ji2 a0_1) = some r := by first | (rw [hji2] at H; exact H) | (simp only [hji2] at H ⊢; exact H)
 have hji2_ : (if a0_0 < (wrap64 (-a0_0)) then (wrap64 (-a0_0)) else a0_0) = ji2 := hji2
 have H' := sqa H
 clear H
 go_enter func168, ntmps168
 go_wp2_with (first | ((with_reducible refine sqd 1 rfl ?_); refine sqx0 w (sqB HB) #[.int .i64 a0_0, .int .i64 a0_1] 31 fun g0 w3 B0 E0 HB => ?_) | ((with_reducible refine sqd 6 rfl ?_); refine Kd.R_lit (Kd.int .i64) _ 3 ?hg (N := 6) ?hd (xs := ([] : List Int)) (inner := []) (ok := fun _ => True) (okp := fun _ => True) ?hr ?hp (fun _ hk => hk) trivial (Below.refl _ _) (Nat.le_refl _) (by simp) ?_; (case hd => rfl); (case hg => rfl); (case hr => exact Z17); (case hp => exact Z24); intro v0 w4 ho5 hb hg_ hnew_; clear hg_ hnew_; (first | rw [← Ny0.out] at ho5 | (simp only [Int.reduceToNat] at ho5; rw [← Ny0.out] at ho5)); have O0 := sqL ho5 (sqB1 HB E0); replace B0 := sqT B0 hb; replace HB := sqS (sqB1 HB E0) hb; clear hb ho5; have := sqY2 B0))
 repeat (go_quiet (first | ((with_reducible refine sqd 1 rfl ?_); refine sqx0 w (sqB HB) #[.int .i64 a0_0, .int .i64 a0_1] 31 fun g0 w3 B0 E0 HB => ?_) | ((with_reducible refine sqd 6 rfl ?_); refine Kd.R_lit (Kd.int .i64) _ 3 ?hg (N := 6) ?hd (xs := ([] : List Int)) (inner := []) (ok := fun _ => True) (okp := fun _ => True) ?hr ?hp (fun _ hk => hk) trivial (Below.refl _ _) (Nat.le_refl _) (by simp) ?_; (case hd => rfl); (case hg => rfl); (case hr => exact Z17); (case hp => exact Z24); intro v0 w4 ho5 hb hg_ hnew_; clear hg_ hnew_; (first | rw [← Ny0.out] at ho5 | (simp only [Int.reduceToNat] at ho5; rw [← Ny0.out] at ho5)); have O0 := sqL ho5 (sqB1 HB E0); replace B0 := sqT B0 hb; replace HB := sqS (sqB1 HB E0) hb; clear hb ho5; have := sqY2 B0)); try go_wp2_with (first | ((with_reducible refine sqd 1 rfl ?_); refine sqx0 w (sqB HB) #[.int .i64 a0_0, .int .i64 a0_1] 31 fun g0 w3 B0 E0 HB => ?_) | ((with_reducible refine sqd 6 rfl ?_); refine Kd.R_lit (Kd.int .i64) _ 3 ?hg (N := 6) ?hd (xs := ([] : List Int)) (inner := []) (ok := fun _ => True) (okp := fun _ => True) ?hr ?hp (fun _ hk => hk) trivial (Below.refl _ _) (Nat.le_refl _) (by simp) ?_; (case hd => rfl); (case hg => rfl); (case hr => exact Z17); (case hp => exact Z24); intro v0 w4 ho5 hb hg_ hnew_; clear hg_ hnew_; (first | rw [← Ny0.out] at ho5 | (simp only [Int.reduceToNat] at ho5; rw [← Ny0.out] at ho5)); have O0 := sqL ho5 (sqB1 HB E0); replace B0 := sqT B0 hb; replace HB := sqS (sqB1 HB E0) hb; clear hb ho5; have := sqY2 B0)))
 go_loopg [3, 4, 5] k (fun kq v3 v4 v5 w' => ∃ (x3_1 : List Int) (x4_1 : Int) (x5_1 : Int), v4 = .int .i64 x4_1 ∧ v5 = .int .i64 x5_1 ∧ Aside0 (F34.l0 kq x3_1 x4_1 x5_1 = some r) ∧ Aside0 (kq ≤ k) ∧ Aside0 (Kd.R (Kd.int .i64) 3 w' w.heap.size (fun _ => True) v3 x3_1) ∧ Aside0 (w'.heap[g0]? = some (.cells #[.int .i64 a0_0, .int .i64 a0_1] 31 (0, 0))) ∧ Aside0 (Below w.heap.size w w'))
 case atStart => exact ⟨(y0), (ji2), (a0_1), Z52, Z1, H', ⟨Nat.le_refl _⟩, ⟨sqR O0⟩, ⟨sqK B0⟩, ⟨sqB1 HB E0⟩⟩
 case round =>
  clear H'
  obtain ⟨x3_1, x4_1, x5_1, rfl, rfl, HA, HK1, O1, B0, HB⟩ := hrel
  cases gk with
  | zero => exact absurd HA.out (by simp [F34.l0])
  | succ k1 =>
   have H := HA.out
   clear HA
   simp only [F34.l0] at H
   obtain ⟨c7b0, H⟩ | ⟨c7b0, H⟩ := sqi3g H
   ·by_cases c8 : x5_1 = 0
    ·rw [if_pos c8] at H
     exact absurd H (by simp)
    rw [if_neg c8] at H
    have c8b0 : (x5_1 == 0) = false := sqe0 c8
    have c8b1 : (x5_1 != 0) = true := sqn1 c8
    obtain ⟨c9, H⟩ := sqI H
    have LMc9 := sqa c9
    clear c9
    obtain ⟨y1, hy1⟩ : ∃ y_ : List Int, y_ = (x3_1 ++ [wrap64 (Int.tdiv x4_1 x5_1)]) := ⟨_, rfl⟩
    replace H : (F34.l0 k1 y1 x5_1 (Int.tmod x4_1 x5_1)) = some r := sqW hy1 H
    have Ny1 := sqa hy1
    clear hy1
    have H' := sqa H
    clear H
    go_wp2_with (first | ((with_reducible refine gate_builtin (b := .append) (xs := #[.tmp 17, .tmp 21]) rfl ?_); at_builtin; refine Kd.R_append (Kd.int .i64) (w0 := w) w.heap.size rfl (.tmp 17) (.tmp 21) 109 3 (.int .i64 0) 8 rfl underlying109 info3 rfl (by decide) (by omega) u3 x3_1 (wrap64 (Int.tdiv x4_1 x5_1)) [.int .i64 (wrap64 (Int.tdiv x4_1 x5_1))] (fun _ => True) (fun _ => False) rfl rfl ?aP (fun _ hk => hk.elim) ?aF ?aO ?aB ?aS ?aL ?_; (case aP => exact rfl); (case aB => exact (sqB1 HB E0)); (case aF => exact Z25); (case aO => exact (sqR O1)); (case aS => exact (below_size (sqB1 HB E0))); (case aL => exact Z2 LMc9); intro v1 w1 ho hb hg hat; rw [← Ny1.out] at ho; replace B0 := sqa (blk_grown (sqK B0) hg (Kd.R_ne O1.1 B0.1 (by decide))); replace HB := sqa (hb); have O2 := sqa (ho); clear O1; clear ho hb hg hat))
    repeat (go_quiet (first | ((with_reducible refine gate_builtin (b := .append) (xs := #[.tmp 17, .tmp 21]) rfl ?_); at_builtin; refine Kd.R_append (Kd.int .i64) (w0 := w) w.heap.size rfl (.tmp 17) (.tmp 21) 109 3 (.int .i64 0) 8 rfl underlying109 info3 rfl (by decide) (by omega) u3 x3_1 (wrap64 (Int.tdiv x4_1 x5_1)) [.int .i64 (wrap64 (Int.tdiv x4_1 x5_1))] (fun _ => True) (fun _ => False) rfl rfl ?aP (fun _ hk => hk.elim) ?aF ?aO ?aB ?aS ?aL ?_; (case aP => exact rfl); (case aB => exact (sqB1 HB E0)); (case aF => exact Z25); (case aO => exact (sqR O1)); (case aS => exact (below_size (sqB1 HB E0))); (case aL => exact Z2 LMc9); intro v1 w1 ho hb hg hat; rw [← Ny1.out] at ho; replace B0 := sqa (blk_grown (sqK B0) hg (Kd.R_ne O1.1 B0.1 (by decide))); replace HB := sqa (hb); have O2 := sqa (ho); clear O1; clear ho hb hg hat)); try go_wp2_with (first | ((with_reducible refine gate_builtin (b := .append) (xs := #[.tmp 17, .tmp 21]) rfl ?_); at_builtin; refine Kd.R_append (Kd.int .i64) (w0 := w) w.heap.size rfl (.tmp 17) (.tmp 21) 109 3 (.int .i64 0) 8 rfl underlying109 info3 rfl (by decide) (by omega) u3 x3_1 (wrap64 (Int.tdiv x4_1 x5_1)) [.int .i64 (wrap64 (Int.tdiv x4_1 x5_1))] (fun _ => True) (fun _ => False) rfl rfl ?aP (fun _ hk => hk.elim) ?aF ?aO ?aB ?aS ?aL ?_; (case aP => exact rfl); (case aB => exact (sqB1 HB E0)); (case aF => exact Z25); (case aO => exact (sqR O1)); (case aS => exact (below_size (sqB1 HB E0))); (case aL => exact Z2 LMc9); intro v1 w1 ho hb hg hat; rw [← Ny1.out] at ho; replace B0 := sqa (blk_grown (sqK B0) hg (Kd.R_ne O1.1 B0.1 (by decide))); replace HB := sqa (hb); have O2 := sqa (ho); clear O1; clear ho hb hg hat)))
    go_roundg k1
    case measure => have := HK1.out; omega
    case rel => exact ⟨(y1), (x5_1), (Int.tmod x4_1 x5_1), Z1, Z1, H', ⟨Z2 HK1⟩, ⟨sqR O2⟩, ⟨sqK B0⟩, ⟨sqB1 HB E0⟩⟩
   obtain rfl := sqo H
   go_wp2
   repeat (go_quiet (fail); try go_wp2)
   go_ret
   exact ⟨_, Z53, Z26 O1, sqB1 HB E0⟩

def F44.l0 : Nat → Int → List Int → Int → Int → Option (Int)
 | 0, _, _, _, _ => none
 | k + 1, x3, x0, x1, x2 => if x2 < x1 then (if 0 ≤ x2 then (if x2 < (x0.length : Int) then (F44.l0 k (wrap64 (x3 + (rd x0 x2))) x0 x1 (wrap64 (x2 + 1))) else (none)) else (none)) else (some x3)
def F44.f (k : Nat) (a0_0 : Int) (a0_1 : Int) : Option (Int) := (F3.f k a0_0 a0_1).bind fun t0 => (if t0 = true then ((F34.f k a0_0 a0_1).bind fun t1 => (F44.l0 k 0 t1 (t1.length : Int) 0)) else (some (-1)))
theorem F44.c (k : Nat) (a0_0 : Int) (a0_1 : Int) (r : Int) (w : World) (H : F44.f k a0_0 a0_1 = some r) :
  Calls prog 145 #[.agg #[.int .i64 a0_0, .int .i64 a0_1]] w fun e w' => e = .returned (.int .i64 r) ∧ Below w.heap.size w w' := by
 have hu31 := underlying31
 have HB := sqh w
 unfold F44.f at H
 obtain ⟨t0, A2, H⟩ := sqD H
 obtain rfl | rfl := sqt t0
 ·rw [if_pos rfl] at H
  obtain ⟨t1, A4, H⟩ := sqD H
  have H' := sqa H
  clear H
  go_enter func145, ntmps145
  go_wp2_with (first | ((with_reducible refine sqd 1 rfl ?_); refine sqx0 w (sqB HB) #[.int .i64 a0_0, .int .i64 a0_1] 31 fun g0 w5 B0 E0 HB => ?_; have := sqY2 B0) | ((with_reducible refine sqc 70 rfl ?_); refine sqv (some 7) func70 (F3.c k a0_0 a0_1 true _ A2.1) fun w7 hb => ?_; replace B0 := sqT B0 hb; replace HB := sqS (sqB1 HB E0) hb; have := sqY2 B0) | ((with_reducible refine sqc 168 rfl ?_); refine sqvo (some 10) func168 (F34.c k a0_0 a0_1 t1 _ A4.1) fun v0 w9 ho0 hb => ?_; have O0 := sqL ho0 (sqB1 HB E0); replace B0 := sqT B0 hb; replace HB := sqS (sqB1 HB E0) hb; (try clear ho0); obtain ⟨Ao10, co10, eo0⟩ := Kd.R_slice O0.1; subst eo0))
  go_loopg [3, 12] k (fun kq v3 v1 w' => ∃ (x3_1 : Int) (x0 : Int), v3 = .int .i64 x3_1 ∧ v1 = .int .i64 x0 ∧ Aside0 (F44.l0 kq x3_1 t1 (t1.length : Int) x0 = some r) ∧ Aside0 (kq ≤ k) ∧ Aside0 (Kd.R (Kd.int .i64) 3 w' w.heap.size (fun _ => True) (.slice Ao10 t1.length co10) t1) ∧ Aside0 (w'.heap[g0]? = some (.cells #[.int .i64 a0_0, .int .i64 a0_1] 31 (0, 0))) ∧ Aside0 (Below w.heap.size w w'))
  case atStart => exact ⟨(0), (0), Z1, Z1, H', ⟨Nat.le_refl _⟩, ⟨sqR O0⟩, ⟨sqK B0⟩, ⟨sqB1 HB E0⟩⟩
  case round =>
   clear H'
   obtain ⟨x3_1, x0, rfl, rfl, HA, HK1, O1, B0, HB⟩ := hrel
   cases gk with
   | zero => exact absurd HA.out (by simp [F44.l0])
   | succ k1 =>
    have H := HA.out
    clear HA
    simp only [F44.l0] at H
    obtain ⟨c1, H⟩ | ⟨c1, H⟩ := sqi3 H
    ·obtain ⟨c4, H⟩ := sqJ2 H
     obtain ⟨c6, H⟩ := sqJ2 H
     have H' := sqa H
     clear H
     have p0 : 0 ≤ (x0 : Int) := of_decide_eq_true Z16
     have q0 : x0 < (t1.length : Int) := of_decide_eq_true Z16
     obtain ⟨ad0, e0, hx0⟩ := Kd.at_int (Kd.R_reads' O1.1).2.2 x0 p0 q0
     cases e0
     replace p0 := eq_true p0
     replace q0 := eq_true q0
     go_wp2
     go_roundg k1
     case measure => have := HK1.out; omega
     case rel => exact ⟨(wrap64 (x3_1 + (rd t1 x0))), (wrap64 (x0 + 1)), Z1, Z1, H', ⟨Z2 HK1⟩, ⟨sqR O1⟩, ⟨sqK B0⟩, ⟨sqB1 HB E0⟩⟩
    obtain rfl := sqo H
    go_wp2
    go_ret
    exact ⟨Z5, sqB1 HB E0⟩
 rw [if_neg sqF] at H
 obtain rfl := sqo H
 go_enter func145, ntmps145
 go_wp2_with (first | ((with_reducible refine sqd 1 rfl ?_); refine sqx0 w (sqB HB) #[.int .i64 a0_0, .int .i64 a0_1] 31 fun g0 w0 B0 E0 HB => ?_; have := sqY2 B0) | ((with_reducible refine sqc 70 rfl ?_); refine sqv (some 7) func70 (F3.c k a0_0 a0_1 false _ A2.1) fun w1 hb => ?_; replace B0 := sqT B0 hb; replace HB := sqS (sqB1 HB E0) hb))
 go_ret
 exact ⟨Z5, sqB1 HB E0⟩

def F63.f (a0_0 : Int) (a0_1 : Int) : Option (Int) := if (Int.tmod a0_0 2) = 0 then (some 0) else (if (Int.tmod a0_1 2) = 0 then (some 1) else (some 2))
theorem F63.c (a0_0 : Int) (a0_1 : Int) (r : Int) (w : World) (H : F63.f a0_0 a0_1 = some r) :
  Calls prog 169 #[.agg #[.int .i64 a0_0, .int .i64 a0_1]] w fun e w' => e = .returned (.int .i64 r) ∧ Below w.heap.size w w' := by
 have hu31 := underlying31
 have HB := sqh w
 unfold F63.f at H
 obtain ⟨c2b0, c2b1, H⟩ | ⟨c2b0, c2b1, c2, H⟩ := sqi4 H
 ·obtain rfl := sqo H
  go_enter func169, ntmps169
  go_wp2_with (first | ((with_reducible refine sqd 1 rfl ?_); refine sqx0 w (sqB HB) #[.int .i64 a0_0, .int .i64 a0_1] 31 fun g0 w3 B0 E0 HB => ?_; have := sqY2 B0))
  go_ret
  exact ⟨Z5, sqB1 HB E0⟩
 obtain ⟨c5b0, c5b1, H⟩ | ⟨c5b0, c5b1, c5, H⟩ := sqi4 H
 ·obtain rfl := sqo H
  go_enter func169, ntmps169
  go_wp2_with (first | ((with_reducible refine sqd 1 rfl ?_); refine sqx0 w (sqB HB) #[.int .i64 a0_0, .int .i64 a0_1] 31 fun g0 w6 B0 E0 HB => ?_; have := sqY2 B0))
  go_ret
  exact ⟨Z5, sqB1 HB E0⟩
 obtain rfl := sqo H
 go_enter func169, ntmps169
 go_wp2_with (first | ((with_reducible refine sqd 1 rfl ?_); refine sqx0 w (sqB HB) #[.int .i64 a0_0, .int .i64 a0_1] 31 fun g0 w8 B0 E0 HB => ?_; have := sqY2 B0))
 go_ret
 exact ⟨Z5, sqB1 HB E0⟩

def F78.f (k : Nat) (a0_0 : Int) (a0_1 : Int) : Option (List Int) := (F3.f k a0_0 a0_1).bind fun t0 => (if t0 = true then ((F63.f a0_0 a0_1).bind fun t1 => (if t1 = 0 then (some (([1, 0, 3, 2] : List Int))) else (if t1 = 1 then (some (([2, 3, 0, 1] : List Int))) else (some (([3, 2, 1, 0] : List Int)))))) else (some ([] : List Int)))
theorem F78.c (k : Nat) (a0_0 : Int) (a0_1 : Int) (r : List Int) (w : World) (H : F78.f k a0_0 a0_1 = some r) :
  Calls prog 146 #[.agg #[.int .i64 a0_0, .int .i64 a0_1]] w fun e w' => ∃ v0_ : Value, e = .returned (v0_) ∧ Kd.R (Kd.int .i64) 3 w' w.heap.size (fun _ => True) v0_ r ∧ Below w.heap.size w w' := by
 have hu31 := underlying31
 have HB := sqh w
 unfold F78.f at H
 obtain ⟨t0, A2, H⟩ := sqD H
 obtain rfl | rfl := sqt t0
 ·rw [if_pos rfl] at H
  obtain ⟨t1, A4, H⟩ := sqD H
  obtain ⟨c5b0, c5b1, H⟩ | ⟨c5b0, c5b1, c5, H⟩ := sqi4 H
  ·obtain ⟨y0, hy0⟩ : ∃ y_ : List Int, y_ = (([1, 0, 3, 2] : List Int)) := ⟨_, rfl⟩
   replace H : (some y0) = some r := sqW hy0 H
   have Ny0 := sqa hy0
   clear hy0
   obtain rfl := sqo H
   go_enter func146, ntmps146
   go_wp2_with (first | ((with_reducible refine sqd 1 rfl ?_); refine sqx0 w (sqB HB) #[.int .i64 a0_0, .int .i64 a0_1] 31 fun g0 w6 B0 E0 HB => ?_; have := sqY2 B0) | ((with_reducible refine sqc 70 rfl ?_); refine sqv (some 4) func70 (F3.c k a0_0 a0_1 true _ A2.1) fun w8 hb => ?_; replace B0 := sqT B0 hb; replace HB := sqS (sqB1 HB E0) hb; have := sqY2 B0) | ((with_reducible refine sqc 169 rfl ?_); refine sqv (some 7) func169 (F63.c a0_0 a0_1 t1 _ A4.1) fun w0 hb => ?_; replace B0 := sqT B0 hb; replace HB := sqS (sqB1 HB E0) hb) | ((with_reducible refine sqd 10 rfl ?_); refine Kd.R_lit (Kd.int .i64) _ 3 ?hg (N := 10) ?hd (xs := ([1, 0, 3, 2] : List Int)) (inner := [.int .i64 1, .int .i64 0, .int .i64 3, .int .i64 2]) (ok := fun _ => True) (okp := fun _ => True) ?hr ?hp (fun _ hk => hk) trivial (Below.refl _ _) (Nat.le_refl _) (by simp) ?_; (case hd => rfl); (case hg => rfl); (case hr => exact Z17); (case hp => exact Z54); intro v0 w1 ho0 hb hg_ hnew_; clear hg_ hnew_; (first | rw [← Ny0.out] at ho0 | (simp only [Int.reduceToNat] at ho0; rw [← Ny0.out] at ho0)); have O0 := sqL ho0 (sqB1 HB E0); replace B0 := sqT B0 hb; replace HB := sqS (sqB1 HB E0) hb; clear hb ho0))
   go_ret
   exact ⟨_, Z5, Z26 O0, sqB1 HB E0⟩
  obtain ⟨c1, c2, H⟩ | ⟨c1, c2, c0, H⟩ := sqi4 H
  ·obtain ⟨y1, hy1⟩ : ∃ y_ : List Int, y_ = (([2, 3, 0, 1] : List Int)) := ⟨_, rfl⟩
   replace H : (some y1) = some r := sqW hy1 H
   have Ny1 := sqa hy1
   clear hy1
   obtain rfl := sqo H
   go_enter func146, ntmps146
   go_wp2_with (first | ((with_reducible refine sqd 1 rfl ?_); refine sqx0 w (sqB HB) #[.int .i64 a0_0, .int .i64 a0_1] 31 fun g0 w2 B0 E0 HB => ?_; have := sqY2 B0) | ((with_reducible refine sqc 70 rfl ?_); refine sqv (some 4) func70 (F3.c k a0_0 a0_1 true _ A2.1) fun w3 hb => ?_; replace B0 := sqT B0 hb; replace HB := sqS (sqB1 HB E0) hb; have := sqY2 B0) | ((with_reducible refine sqc 169 rfl ?_); refine sqv (some 7) func169 (F63.c a0_0 a0_1 t1 _ A4.1) fun w4 hb => ?_; replace B0 := sqT B0 hb; replace HB := sqS (sqB1 HB E0) hb) | ((with_reducible refine sqd 13 rfl ?_); refine Kd.R_lit (Kd.int .i64) _ 3 ?hg (N := 13) ?hd (xs := ([2, 3, 0, 1] : List Int)) (inner := [.int .i64 2, .int .i64 3, .int .i64 0, .int .i64 1]) (ok := fun _ => True) (okp := fun _ => True) ?hr ?hp (fun _ hk => hk) trivial (Below.refl _ _) (Nat.le_refl _) (by simp) ?_; (case hd => rfl); (case hg => rfl); (case hr => exact Z17); (case hp => exact Z55); intro v1 w5 ho1 hb hg_ hnew_; clear hg_ hnew_; (first | rw [← Ny1.out] at ho1 | (simp only [Int.reduceToNat] at ho1; rw [← Ny1.out] at ho1)); have O1 := sqL ho1 (sqB1 HB E0); replace B0 := sqT B0 hb; replace HB := sqS (sqB1 HB E0) hb; clear hb ho1))
   go_ret
   exact ⟨_, Z5, Z26 O1, sqB1 HB E0⟩
  obtain ⟨y2, hy2⟩ : ∃ y_ : List Int, y_ = (([3, 2, 1, 0] : List Int)) := ⟨_, rfl⟩
  replace H : (some y2) = some r := sqW hy2 H
  have Ny2 := sqa hy2
  clear hy2
  obtain rfl := sqo H
  go_enter func146, ntmps146
  go_wp2_with (first | ((with_reducible refine sqd 1 rfl ?_); refine sqx0 w (sqB HB) #[.int .i64 a0_0, .int .i64 a0_1] 31 fun g0 w7 B0 E0 HB => ?_; have := sqY2 B0) | ((with_reducible refine sqc 70 rfl ?_); refine sqv (some 4) func70 (F3.c k a0_0 a0_1 true _ A2.1) fun w9 hb => ?_; replace B0 := sqT B0 hb; replace HB := sqS (sqB1 HB E0) hb; have := sqY2 B0) | ((with_reducible refine sqc 169 rfl ?_); refine sqv (some 7) func169 (F63.c a0_0 a0_1 t1 _ A4.1) fun w25 hb => ?_; replace B0 := sqT B0 hb; replace HB := sqS (sqB1 HB E0) hb) | ((with_reducible refine sqd 14 rfl ?_); refine Kd.R_lit (Kd.int .i64) _ 3 ?hg (N := 14) ?hd (xs := ([3, 2, 1, 0] : List Int)) (inner := [.int .i64 3, .int .i64 2, .int .i64 1, .int .i64 0]) (ok := fun _ => True) (okp := fun _ => True) ?hr ?hp (fun _ hk => hk) trivial (Below.refl _ _) (Nat.le_refl _) (by simp) ?_; (case hd => rfl); (case hg => rfl); (case hr => exact Z17); (case hp => exact Z56); intro v2 w26 ho2 hb hg_ hnew_; clear hg_ hnew_; (first | rw [← Ny2.out] at ho2 | (simp only [Int.reduceToNat] at ho2; rw [← Ny2.out] at ho2)); have O2 := sqL ho2 (sqB1 HB E0); replace B0 := sqT B0 hb; replace HB := sqS (sqB1 HB E0) hb; clear hb ho2))
  go_ret
  exact ⟨_, Z5, Z26 O2, sqB1 HB E0⟩
 rw [if_neg sqF] at H
 obtain rfl := sqo H
 go_enter func146, ntmps146
 go_wp2_with (first | ((with_reducible refine sqd 1 rfl ?_); refine sqx0 w (sqB HB) #[.int .i64 a0_0, .int .i64 a0_1] 31 fun g0 w28 B0 E0 HB => ?_; have := sqY2 B0) | ((with_reducible refine sqc 70 rfl ?_); refine sqv (some 4) func70 (F3.c k a0_0 a0_1 false _ A2.1) fun w30 hb => ?_; replace B0 := sqT B0 hb; replace HB := sqS (sqB1 HB E0) hb))
 go_ret
 exact ⟨_, Z5, Z47, sqB1 HB E0⟩

def F86.f (k : Nat) (a0_0 : Int) (a0_1 : Int) : Option (Int) := (F3.f k a0_0 a0_1).bind fun t0 => (if t0 = true then ((F63.f a0_0 a0_1).bind fun t1 => (if t1 = 0 then (some 2) else (some 1))) else (some (-1)))
theorem F86.c (k : Nat) (a0_0 : Int) (a0_1 : Int) (r : Int) (w : World) (H : F86.f k a0_0 a0_1 = some r) :
  Calls prog 147 #[.agg #[.int .i64 a0_0, .int .i64 a0_1]] w fun e w' => e = .returned (.int .i64 r) ∧ Below w.heap.size w w' := by
 have hu31 := underlying31
 have HB := sqh w
 unfold F86.f at H
 obtain ⟨t0, A2, H⟩ := sqD H
 obtain rfl | rfl := sqt t0
 ·rw [if_pos rfl] at H
  obtain ⟨t1, A4, H⟩ := sqD H
  obtain ⟨c5b0, c5b1, H⟩ | ⟨c5b0, c5b1, c5, H⟩ := sqi4 H
  ·obtain rfl := sqo H
   go_enter func147, ntmps147
   go_wp2_with (first | ((with_reducible refine sqd 1 rfl ?_); refine sqx0 w (sqB HB) #[.int .i64 a0_0, .int .i64 a0_1] 31 fun g0 w6 B0 E0 HB => ?_; have := sqY2 B0) | ((with_reducible refine sqc 70 rfl ?_); refine sqv (some 4) func70 (F3.c k a0_0 a0_1 true _ A2.1) fun w8 hb => ?_; replace B0 := sqT B0 hb; replace HB := sqS (sqB1 HB E0) hb; have := sqY2 B0) | ((with_reducible refine sqc 169 rfl ?_); refine sqv (some 7) func169 (F63.c a0_0 a0_1 t1 _ A4.1) fun w0 hb => ?_; replace B0 := sqT B0 hb; replace HB := sqS (sqB1 HB E0) hb))
   go_ret
   exact ⟨Z5, sqB1 HB E0⟩
  obtain rfl := sqo H
  go_enter func147, ntmps147
  go_wp2_with (first | ((with_reducible refine sqd 1 rfl ?_); refine sqx0 w (sqB HB) #[.int .i64 a0_0, .int .i64 a0_1] 31 fun g0 w1 B0 E0 HB => ?_; have := sqY2 B0) | ((with_reducible refine sqc 70 rfl ?_); refine sqv (some 4) func70 (F3.c k a0_0 a0_1 true _ A2.1) fun w2 hb => ?_; replace B0 := sqT B0 hb; replace HB := sqS (sqB1 HB E0) hb; have := sqY2 B0) | ((with_reducible refine sqc 169 rfl ?_); refine sqv (some 7) func169 (F63.c a0_0 a0_1 t1 _ A4.1) fun w3 hb => ?_; replace B0 := sqT B0 hb; replace HB := sqS (sqB1 HB E0) hb))
  go_ret
  exact ⟨Z5, sqB1 HB E0⟩
 rw [if_neg sqF] at H
 obtain rfl := sqo H
 go_enter func147, ntmps147
 go_wp2_with (first | ((with_reducible refine sqd 1 rfl ?_); refine sqx0 w (sqB HB) #[.int .i64 a0_0, .int .i64 a0_1] 31 fun g0 w4 B0 E0 HB => ?_; have := sqY2 B0) | ((with_reducible refine sqc 70 rfl ?_); refine sqv (some 4) func70 (F3.c k a0_0 a0_1 false _ A2.1) fun w5 hb => ?_; replace B0 := sqT B0 hb; replace HB := sqS (sqB1 HB E0) hb))
 go_ret
 exact ⟨Z5, sqB1 HB E0⟩

def F45.j0 : Nat → Bool → Int → Int → Option (Int × Int × Bool)
 | 0, _, _, _ => none
 | k + 1, x0, x1, x2 => if x0 = true then (some (0, 0, false)) else (if x1 = 0 then (some (0, 1, true)) else (if (mx x1 (wrap64 (-x1))) = 0 then (none) else (if x1 < 0 then (some (mx x1 (wrap64 (-x1)), Int.tmod (wrap64 ((mx x1 (wrap64 (-x1))) - (Int.tmod x2 (mx x1 (wrap64 (-x1)))))) (mx x1 (wrap64 (-x1))), true)) else (some (mx x1 (wrap64 (-x1)), Int.tmod x2 (mx x1 (wrap64 (-x1))), true)))))
def F45.f (k : Nat) (a0_0 : Int) (a0_1 : Int) : Option (Int × Int × Bool) := (F3.f k a0_0 a0_1).bind fun t0 => (if t0 = true then (if a0_0 < (-60) then (F45.j0 k true a0_0 a0_1) else (F45.j0 k (decide (a0_0 > 60)) a0_0 a0_1)) else (F45.j0 k true a0_0 a0_1))
theorem F45.c (k : Nat) (a0_0 : Int) (a0_1 : Int) (r1 : Int) (r2 : Int) (r3 : Bool) (w : World) (H : F45.f k a0_0 a0_1 = some (r1, r2, r3)) :
  Calls prog 148 #[.agg #[.int .i64 a0_0, .int .i64 a0_1]] w fun e w' => e = .returned (.tuple #[.agg #[.int .i64 r1, .int .i64 r2], .bool r3]) ∧ Below w.heap.size w w' := by
 have hu31 := underlying31
 have hu116 := underlying116
 have HB := sqh w
 unfold F45.f at H
 have HC2 := sqa H
 clear H
 go_enter func148, ntmps148
 go_upto_region 1 with (first | ((with_reducible refine sqd 1 rfl ?_); refine sqx0 w (sqB HB) #[.int .i64 a0_0, .int .i64 a0_1] 31 fun g0 w3 B0 E0 HB => ?_) | ((with_reducible refine sqd 2 rfl ?_); refine sqx1 w (sqB1 HB E0) #[.int .i64 0, .int .i64 0] 116 B0 fun g1 w4 B2 E1 HB N0 N1 B0 => ?_))
 (try simp only [Act.put, List.setIfInBounds_toArray, List.set_cons_zero, List.set_cons_succ])
 go_cut [18] (fun v0 wc => ∃ (kq : Nat) (x0 : Bool), v0 = .bool x0 ∧ Aside0 (F45.j0 kq x0 a0_0 a0_1 = some (r1, r2, r3)) ∧ Aside0 (kq ≤ k) ∧ Aside0 (wc.heap[g0]? = some (.cells #[.int .i64 a0_0, .int .i64 a0_1] 31 (0, 0))) ∧ Aside0 (wc.heap[g1]? = some (.cells #[.int .i64 0, .int .i64 0] 116 (0, 0))) ∧ Aside0 (Below w.heap.size w wc))
 case first =>
  have H := HC2.1
  clear HC2
  obtain ⟨t0, A5, H⟩ := sqD H
  obtain rfl | rfl := sqt t0
  ·rw [if_pos rfl] at H
   obtain ⟨c7b0, H⟩ | ⟨c7b0, H⟩ := sqi3 H
   ·(first | rw [c7b0] | (simp only [i64_w, i32_w]; rw [c7b0]) | skip)
    have H' := sqa H
    clear H
    have := sqn2 N0 N1
    have := sqY2 B0
    go_wp2_with (first | ((with_reducible refine sqc 70 rfl ?_); refine sqv (some 7) func70 (F3.c k a0_0 a0_1 true _ A5.1) fun w0 hb => ?_; obtain ⟨B0, B2⟩ := sqT2 hb B0 B2; replace HB := sqS (sqB2 HB E0 E1) hb; have := sqY2 B0))
    go_meet
    case rel => exact ⟨_, (true), Z1, H', ⟨Z11⟩, ⟨sqK B0⟩, ⟨sqK B2⟩, ⟨sqB2 HB E0 E1⟩⟩
   (first | rw [c7b0] | (simp only [i64_w, i32_w]; rw [c7b0]) | skip)
   have H' := sqa H
   clear H
   have := sqn2 N0 N1
   have := sqY2 B0
   go_wp2_with (first | ((with_reducible refine sqc 70 rfl ?_); refine sqv (some 7) func70 (F3.c k a0_0 a0_1 true _ A5.1) fun w1 hb => ?_; obtain ⟨B0, B2⟩ := sqT2 hb B0 B2; replace HB := sqS (sqB2 HB E0 E1) hb; have := sqY2 B0))
   go_meet
   case rel => exact ⟨_, (decide (a0_0 > 60)), Z1, H', ⟨Z11⟩, ⟨sqK B0⟩, ⟨sqK B2⟩, ⟨sqB2 HB E0 E1⟩⟩
  rw [if_neg sqF] at H
  have H' := sqa H
  clear H
  have := sqn2 N0 N1
  have := sqY2 B0
  go_wp2_with (first | ((with_reducible refine sqc 70 rfl ?_); refine sqv (some 7) func70 (F3.c k a0_0 a0_1 false _ A5.1) fun w2 hb => ?_; obtain ⟨B0, B2⟩ := sqT2 hb B0 B2; replace HB := sqS (sqB2 HB E0 E1) hb))
  go_meet
  case rel => exact ⟨_, (true), Z1, H', ⟨Z11⟩, ⟨sqK B0⟩, ⟨sqK B2⟩, ⟨sqB2 HB E0 E1⟩⟩
 case rest =>
  clear HC2
  obtain ⟨kq, x0, rfl, HA, HJ1, B0, B2, HB⟩ := hcut
  cases kq with
  | zero => exact absurd HA.out (by simp [F45.j0])
  | succ kj1 =>
   have H := HA.out
   clear HA
   simp only [F45.j0] at H
   obtain rfl | rfl := sqt x0
   ·rw [if_pos rfl] at H
    obtain ⟨rfl, rfl, rfl⟩ := sqO3 H
    have := sqn2 N1 N0
    have := sqY2 B2
    go_wp2
    refine sqE g1 116 #[.int .i64 0, .int .i64 0] (Z12 B2) underlying116 ?_
    exact ⟨Z5, sqB2 HB E0 E1⟩
   rw [if_neg sqF] at H
   obtain ⟨c2, c3, H⟩ | ⟨c2, c3, c1, H⟩ := sqi4 H
   ·obtain ⟨rfl, rfl, rfl⟩ := sqO3 H
    have := sqn2 N0 N1
    have := sqY2 B0
    have := sqY2 B2
    go_wp2
    refine sqE g1 116 #[.int .i64 0, .int .i64 1] (Z12 B2) underlying116 ?_
    exact ⟨Z5, sqB2 HB E0 E1⟩
   obtain ⟨ji26, hji26⟩ : ∃ j_ : Int, (mx a0_0 (wrap64 (-a0_0))) = j_ := ⟨_, rfl⟩
   replace H : (if (ji26) = 0 then (none) else (if a0_0 < 0 then (some (ji26, Int.tmod (wrap64 ((ji26) - (Int.tmod a0_1 (ji26)))) (ji26), true)) else (some (ji26, Int.tmod a0_1 (ji26), true)))) = some (r1, r2, r3) := by first | (rw [hji26] at H; exact H) | (simp only [hji26] at H ⊢; exact H)
   have hji0 : (if a0_0 < (wrap64 (-a0_0)) then (wrap64 (-a0_0)) else a0_0) = ji26 := hji26
   obtain ⟨c4, H⟩ | ⟨c4, H⟩ := sqi2 H
   ·exact absurd H (by simp)
   have c5 := sqe0 c4
   have c8 := sqn1 c4
   obtain ⟨c10, H⟩ | ⟨c10, H⟩ := sqi3 H
   ·obtain ⟨rfl, rfl, rfl⟩ := sqO3 H
    have := sqn2 N0 N1
    have := sqY2 B0
    have := sqY2 B2
    go_wp2
    refine sqE g1 116 #[.int .i64 ji26, .int .i64 (Int.tmod (wrap64 ((ji26) - (Int.tmod a0_1 (ji26)))) (ji26))] (Z118 B2) underlying116 ?_
    exact ⟨Z119, sqB2 HB E0 E1⟩
   obtain ⟨rfl, rfl, rfl⟩ := sqO3 H
   have := sqn2 N0 N1
   have := sqY2 B0
   have := sqY2 B2
   go_wp2
   refine sqE g1 116 #[.int .i64 ji26, .int .i64 (Int.tmod a0_1 (ji26))] (Z118 B2) underlying116 ?_
   exact ⟨Z119, sqB2 HB E0 E1⟩

end Go.Proofs.YtofmlbgfcohhoaaGreatDoor.PFnDeskSay
