import Derived.Test.YtofmlbgfcohhoaaGreatDoorPFnDeskSayx19
set_option maxHeartbeats 8000000
set_option maxRecDepth 100000
namespace Go.Proofs.YtofmlbgfcohhoaaGreatDoor.PFnDeskSay
open Go.RowKit Go.Proofs.YtofmlbgfcohhoaaGreatDoorW.PrintWords Go.Proofs.YtofmlbgfcohhoaaGreatDoorW.PrintLast Go.Proofs.YtofmlbgfcohhoaaGreatDoorW.PrintMore Go.Proofs.YtofmlbgfcohhoaaGreatDoor.Lib Go.Proofs.Tryz
attribute [local go_sem] max2_int min2_int max_two min_two max_three min_three max_four min_four   -- for this text's walks alone
set_option linter.unusedVariables false
set_option linter.unusedSimpArgs false

def F76.f (a0_0 : Int) (a0_1 : Int) : Option (Int) := (F94.f (wrap64 (-a0_0)) a0_1).bind fun t0 => (some (wrap64 (-t0)))
theorem F76.c (a0_0 : Int) (a0_1 : Int) (r : Int) (w : World) (H : F76.f a0_0 a0_1 = some r) :
  Calls prog 153 #[.agg #[.int .i64 a0_0, .int .i64 a0_1]] w fun e w' => e = .returned (.int .i64 r) ∧ Below w.heap.size w w' := by
 have hu31 := underlying31
 have HB := sqh w
 unfold F76.f at H
 obtain ⟨t0, A2, H⟩ := sqD H
 obtain rfl := sqo H
 go_enter func153, ntmps153
 go_wp2_with (first | ((with_reducible refine sqd 1 rfl ?_); refine sqx0 w (sqB HB) #[.int .i64 a0_0, .int .i64 a0_1] 31 fun g0 w3 B0 E0 HB => ?_; have := sqY2 B0) | ((with_reducible refine sqc 173 rfl ?_); refine sqv (some 9) func173 (F94.c (wrap64 (-a0_0)) a0_1 t0 _ A2.1) fun w5 hb => ?_; replace B0 := sqT B0 hb; replace HB := sqS (sqB1 HB E0) hb))
 go_ret
 exact ⟨Z5, sqB1 HB E0⟩

def F47.l0 : Nat → List Int → Int → Int → Option (List Int)
 | 0, _, _, _ => none
 | k + 1, x3, x0, x1 => if x1 > 0 then ((F76.f x0 x1).bind fun t0 => (if x3.length < 17592186044416 then (F47.l0 k (x3 ++ [t0]) x1 (wrap64 ((wrap64 (t0 * x1)) - x0))) else (none))) else (some x3)
def F47.f (k : Nat) (a0_0 : Int) (a0_1 : Int) : Option (List Int) := F47.l0 k (([] : List Int)) a0_0 a0_1
theorem F47.c (k : Nat) (a0_0 : Int) (a0_1 : Int) (r : List Int) (w : World) (H : F47.f k a0_0 a0_1 = some r) :
  Calls prog 129 #[.agg #[.int .i64 a0_0, .int .i64 a0_1]] w fun e w' => ∃ v0_ : Value, e = .returned (v0_) ∧ Kd.R (Kd.int .i64) 3 w' w.heap.size (fun _ => True) v0_ r ∧ Below w.heap.size w w' := by
 have hu31 := underlying31
 have HB := sqh w
 unfold F47.f at H
 obtain ⟨y0, hy0⟩ : ∃ y_ : List Int, y_ = (([] : List Int)) := ⟨_, rfl⟩
 replace H : (F47.l0 k y0 a0_0 a0_1) = some r := sqW hy0 H
 have Ny0 := sqa hy0
 clear hy0
 have H' := sqa H
 clear H
 go_enter func129, ntmps129
 go_wp2_with (first | ((with_reducible refine sqd 1 rfl ?_); refine sqx0 w (sqB HB) #[.int .i64 a0_0, .int .i64 a0_1] 31 fun g0 w2 B0 E0 HB => ?_) | ((with_reducible refine sqd 6 rfl ?_); refine Kd.R_lit (Kd.int .i64) _ 3 ?hg (N := 6) ?hd (xs := ([] : List Int)) (inner := []) (ok := fun _ => True) (okp := fun _ => True) ?hr ?hp (fun _ hk => hk) trivial (Below.refl _ _) (Nat.le_refl _) (by simp) ?_; (case hd => rfl); (case hg => rfl); (case hr => exact Z17); (case hp => exact Z24); intro v0 w3 ho4 hb hg_ hnew_; clear hg_ hnew_; (first | rw [← Ny0.out] at ho4 | (simp only [Int.reduceToNat] at ho4; rw [← Ny0.out] at ho4)); have O0 := sqL ho4 (sqB1 HB E0); replace B0 := sqT B0 hb; replace HB := sqS (sqB1 HB E0) hb; clear hb ho4; have := sqY2 B0) | ((with_reducible refine sqd 4 rfl ?_); refine sqx w (sqB1 HB E0) #[.int .i64 0, .int .i64 0] 31 fun g1 hg w6 B2 E1 HB hb => ?_; replace O0 := sqU O0 hb; obtain ⟨N0, N1⟩ := sqM hg B0; replace B0 := sqT B0 hb; clear hb hg; have := sqn2 N1 N0; have := sqY2 B2))
 go_loopg [3] k (fun kq v3 w' => ∃ (x3_1 : List Int) (x0 : Int) (x1 : Int), Aside0 (F47.l0 kq x3_1 x0 x1 = some r) ∧ Aside0 (kq ≤ k) ∧ Aside0 (Kd.R (Kd.int .i64) 3 w' w.heap.size (fun _ => True) v3 x3_1) ∧ Aside0 (w'.heap[g0]? = some (.cells #[.int .i64 a0_0, .int .i64 a0_1] 31 (0, 0))) ∧ Aside0 (w'.heap[g1]? = some (.cells #[.int .i64 x0, .int .i64 x1] 31 (0, 0))) ∧ Aside0 (Below w.heap.size w w'))
 case atStart => exact ⟨(y0), (a0_0), (a0_1), H', ⟨Nat.le_refl _⟩, ⟨by (with_reducible repeat (first | apply Kd.R_alloc | apply Kd.R_drewN | apply Kd.R_drew)); exact Kd.R_mono (sqr2 O0.1 B2.1) (fun _ hk => trivial)⟩, ⟨Z9 N0 B0⟩, ⟨Z4 B2⟩, ⟨sqB2 HB E0 E1⟩⟩
 case round =>
  clear H'
  obtain ⟨x3_1, x0, x1, HA, HK1, O1, B0, B2, HB⟩ := hrel
  cases gk with
  | zero => exact absurd HA.out (by simp [F47.l0])
  | succ k1 =>
   have H := HA.out
   clear HA
   simp only [F47.l0] at H
   obtain ⟨c9b0, H⟩ | ⟨c9b0, H⟩ := sqi3g H
   ·obtain ⟨t0, A0, H⟩ := sqD H
    obtain ⟨c0, H⟩ := sqI H
    have LMc0 := sqa c0
    clear c0
    obtain ⟨y1, hy1⟩ : ∃ y_ : List Int, y_ = (x3_1 ++ [t0]) := ⟨_, rfl⟩
    replace H : (F47.l0 k1 y1 x1 (wrap64 ((wrap64 (t0 * x1)) - x0))) = some r := sqW hy1 H
    have Ny1 := sqa hy1
    clear hy1
    have H' := sqa H
    clear H
    have := sqn2 N1 N0
    have := sqY2 B2
    go_wp2_with (first | ((with_reducible refine sqc 153 rfl ?_); refine sqv (some 12) func153 (F76.c x0 x1 t0 _ A0.1) fun w1 hb => ?_; replace O1 := sqU O1 hb; obtain ⟨B0, B2⟩ := sqT2 hb B0 B2; replace HB := sqS (sqB2 HB E0 E1) hb) | ((with_reducible refine gate_builtin (b := .append) (xs := #[.tmp 13, .tmp 15]) rfl ?_); at_builtin; refine Kd.R_append (Kd.int .i64) (w0 := w) w.heap.size rfl (.tmp 13) (.tmp 15) 109 3 (.int .i64 0) 8 rfl underlying109 info3 rfl (by decide) (by omega) u3 x3_1 t0 [.int .i64 t0] (fun _ => True) (fun _ => False) rfl rfl ?aP (fun _ hk => hk.elim) ?aF ?aO ?aB ?aS ?aL ?_; (case aP => exact rfl); (case aB => exact (sqB2 HB E0 E1)); (case aF => exact Z25); (case aO => exact (sqR O1)); (case aS => exact (below_size (sqB2 HB E0 E1))); (case aL => exact Z2 LMc0); intro v1 w4 ho hb hg hat; rw [← Ny1.out] at ho; replace B0 := sqa (blk_grown (sqK B0) hg (Kd.R_ne O1.1 B0.1 (by decide))); replace B2 := sqa (blk_grown (sqK B2) hg (Kd.R_ne O1.1 B2.1 (by decide))); replace HB := sqa (hb); have O2 := sqa (ho); clear O1; clear ho hb hg hat; have := sqY2 B2))
    go_roundg k1
    case measure => have := HK1.out; omega
    case rel => exact ⟨(y1), (x1), (wrap64 ((wrap64 (t0 * x1)) - x0)), H', ⟨Z2 HK1⟩, ⟨by (with_reducible repeat (first | apply Kd.R_alloc | apply Kd.R_drewN | apply Kd.R_drew)); exact Kd.R_mono (Kd.R_far (p := ⟨g1, 1, none⟩) (Kd.R_far (p := ⟨g1, 0, none⟩) (Kd.R_types O2.1 B2.1 (by decide)) (fun _ hk => hk.2) (.int .i64 x1)) (fun _ hk => hk.2) (.int .i64 (wrap64 ((wrap64 (t0 * x1)) - x0)))) (fun _ hk => trivial)⟩, ⟨Z9 N0 B0⟩, ⟨by refine sqPut (cs := #[.int .i64 x1, .int .i64 x1]) ?_ 1; refine sqPut (cs := #[.int .i64 x0, .int .i64 x1]) ?_ 0; exact sqK B2⟩, ⟨sqB2 HB E0 E1⟩⟩
   obtain rfl := sqo H
   have := sqn2 N1 N0
   have := sqY2 B2
   go_wp2
   go_ret
   exact ⟨_, Z5, Z26 O1, sqB2 HB E0 E1⟩

def F79.f (k : Nat) (a0_0 : Int) (a0_1 : Int) : Option (List Int × Bool) := (F0.f k a0_0 a0_1).bind fun t0 => (if t0 = true then ((F2.f a0_0 (-60) 60).bind fun t1 => (if t1 = true then ((F2.f a0_1 1 60).bind fun t2 => (if t2 = true then ((F47.f k a0_0 a0_1).bind fun t3 => (some (t3, true))) else (some ((([] : List Int)), false)))) else (some ((([] : List Int)), false)))) else (some ((([] : List Int)), false)))
theorem F79.c (k : Nat) (a0_0 : Int) (a0_1 : Int) (r1 : List Int) (r2 : Bool) (w : World) (H : F79.f k a0_0 a0_1 = some (r1, r2)) :
  Calls prog 91 #[.agg #[.int .i64 a0_0, .int .i64 a0_1]] w fun e w' => ∃ v0_ : Value, e = .returned (.tuple #[v0_, .bool r2]) ∧ Kd.R (Kd.int .i64) 3 w' w.heap.size (fun _ => True) v0_ r1 ∧ Below w.heap.size w w' := by
 have hu31 := underlying31
 have HB := sqh w
 unfold F79.f at H
 obtain ⟨t0, A2, H⟩ := sqD H
 obtain rfl | rfl := sqt t0
 ·rw [if_pos rfl] at H
  obtain ⟨t1, A4, H⟩ := sqD H
  obtain rfl | rfl := sqt t1
  ·rw [if_pos rfl] at H
   obtain ⟨t2, A6, H⟩ := sqD H
   obtain rfl | rfl := sqt t2
   ·rw [if_pos rfl] at H
    obtain ⟨t3, A8, H⟩ := sqD H
    obtain ⟨rfl, rfl⟩ := sqO2 H
    go_enter func91, ntmps91
    go_wp2_with (first | ((with_reducible refine sqd 1 rfl ?_); refine sqx0 w (sqB HB) #[.int .i64 a0_0, .int .i64 a0_1] 31 fun g0 w9 B0 E0 HB => ?_; have := sqY2 B0) | ((with_reducible refine sqc 77 rfl ?_); refine sqv (some 5) func77 (F0.c k a0_0 a0_1 true _ A2.1) fun w0 hb => ?_; replace B0 := sqT B0 hb; replace HB := sqS (sqB1 HB E0) hb; have := sqY2 B0) | (go_at_call 101; (with_reducible refine (F2.c a0_0 (-60) 60 true _ A4.1).mono ?_); rintro e w' ⟨rfl, ⟨nd, rfl⟩⟩) | (go_at_call 101; (with_reducible refine (F2.c a0_1 1 60 true _ A6.1).mono ?_); rintro e w' ⟨rfl, ⟨nd, rfl⟩⟩) | ((with_reducible refine sqc 129 rfl ?_); refine sqvo (some 21) func129 (F47.c k a0_0 a0_1 t3 _ A8.1) fun v0 w1 ho0 hb => ?_; have O0 := sqL ho0 (sqB1 HB E0); replace B0 := sqT B0 hb; replace HB := sqS (sqB1 HB E0) hb; (try clear ho0)))
    go_ret2
    exact ⟨_, Z5, Z26 O0, sqB1 HB E0⟩
   rw [if_neg sqF] at H
   obtain ⟨y0, hy0⟩ : ∃ y_ : List Int, y_ = (([] : List Int)) := ⟨_, rfl⟩
   replace H : (some (y0, false)) = some (r1, r2) := sqW hy0 H
   have Ny0 := sqa hy0
   clear hy0
   obtain ⟨rfl, rfl⟩ := sqO2 H
   go_enter func91, ntmps91
   go_wp2_with (first | ((with_reducible refine sqd 1 rfl ?_); refine sqx0 w (sqB HB) #[.int .i64 a0_0, .int .i64 a0_1] 31 fun g0 w2 B0 E0 HB => ?_; have := sqY2 B0) | ((with_reducible refine sqc 77 rfl ?_); refine sqv (some 5) func77 (F0.c k a0_0 a0_1 true _ A2.1) fun w3 hb => ?_; replace B0 := sqT B0 hb; replace HB := sqS (sqB1 HB E0) hb; have := sqY2 B0) | (go_at_call 101; (with_reducible refine (F2.c a0_0 (-60) 60 true _ A4.1).mono ?_); rintro e w' ⟨rfl, ⟨nd, rfl⟩⟩) | (go_at_call 101; (with_reducible refine (F2.c a0_1 1 60 false _ A6.1).mono ?_); rintro e w' ⟨rfl, ⟨nd, rfl⟩⟩) | ((with_reducible refine sqd 19 rfl ?_); refine Kd.R_lit (Kd.int .i64) _ 3 ?hg (N := 19) ?hd (xs := ([] : List Int)) (inner := []) (ok := fun _ => True) (okp := fun _ => True) ?hr ?hp (fun _ hk => hk) trivial (Below.refl _ _) (Nat.le_refl _) (by simp) ?_; (case hd => rfl); (case hg => rfl); (case hr => exact Z17); (case hp => exact Z24); intro v1 w4 ho1 hb hg_ hnew_; clear hg_ hnew_; (first | rw [← Ny0.out] at ho1 | (simp only [Int.reduceToNat] at ho1; rw [← Ny0.out] at ho1)); have O1 := sqL ho1 (sqB1 HB E0); replace B0 := sqT B0 hb; replace HB := sqS (sqB1 HB E0) hb; clear hb ho1))
   go_ret2
   exact ⟨_, Z5, Z26 O1, sqB1 HB E0⟩
  rw [if_neg sqF] at H
  obtain ⟨y1, hy1⟩ : ∃ y_ : List Int, y_ = (([] : List Int)) := ⟨_, rfl⟩
  replace H : (some (y1, false)) = some (r1, r2) := sqW hy1 H
  have Ny1 := sqa hy1
  clear hy1
  obtain ⟨rfl, rfl⟩ := sqO2 H
  go_enter func91, ntmps91
  go_wp2_with (first | ((with_reducible refine sqd 1 rfl ?_); refine sqx0 w (sqB HB) #[.int .i64 a0_0, .int .i64 a0_1] 31 fun g0 w5 B0 E0 HB => ?_; have := sqY2 B0) | ((with_reducible refine sqc 77 rfl ?_); refine sqv (some 5) func77 (F0.c k a0_0 a0_1 true _ A2.1) fun w6 hb => ?_; replace B0 := sqT B0 hb; replace HB := sqS (sqB1 HB E0) hb; have := sqY2 B0) | (go_at_call 101; (with_reducible refine (F2.c a0_0 (-60) 60 false _ A4.1).mono ?_); rintro e w' ⟨rfl, ⟨nd, rfl⟩⟩) | ((with_reducible refine sqd 19 rfl ?_); refine Kd.R_lit (Kd.int .i64) _ 3 ?hg (N := 19) ?hd (xs := ([] : List Int)) (inner := []) (ok := fun _ => True) (okp := fun _ => True) ?hr ?hp (fun _ hk => hk) trivial (Below.refl _ _) (Nat.le_refl _) (by simp) ?_; (case hd => rfl); (case hg => rfl); (case hr => exact Z17); (case hp => exact Z24); intro v2 w7 ho2 hb hg_ hnew_; clear hg_ hnew_; (first | rw [← Ny1.out] at ho2 | (simp only [Int.reduceToNat] at ho2; rw [← Ny1.out] at ho2)); have O2 := sqL ho2 (sqB1 HB E0); replace B0 := sqT B0 hb; replace HB := sqS (sqB1 HB E0) hb; clear hb ho2))
  go_ret2
  exact ⟨_, Z5, Z26 O2, sqB1 HB E0⟩
 rw [if_neg sqF] at H
 obtain ⟨y2, hy2⟩ : ∃ y_ : List Int, y_ = (([] : List Int)) := ⟨_, rfl⟩
 replace H : (some (y2, false)) = some (r1, r2) := sqW hy2 H
 have Ny2 := sqa hy2
 clear hy2
 obtain ⟨rfl, rfl⟩ := sqO2 H
 go_enter func91, ntmps91
 go_wp2_with (first | ((with_reducible refine sqd 1 rfl ?_); refine sqx0 w (sqB HB) #[.int .i64 a0_0, .int .i64 a0_1] 31 fun g0 w8 B0 E0 HB => ?_; have := sqY2 B0) | ((with_reducible refine sqc 77 rfl ?_); refine sqv (some 5) func77 (F0.c k a0_0 a0_1 false _ A2.1) fun w28 hb => ?_; replace B0 := sqT B0 hb; replace HB := sqS (sqB1 HB E0) hb) | ((with_reducible refine sqd 19 rfl ?_); refine Kd.R_lit (Kd.int .i64) _ 3 ?hg (N := 19) ?hd (xs := ([] : List Int)) (inner := []) (ok := fun _ => True) (okp := fun _ => True) ?hr ?hp (fun _ hk => hk) trivial (Below.refl _ _) (Nat.le_refl _) (by simp) ?_; (case hd => rfl); (case hg => rfl); (case hr => exact Z17); (case hp => exact Z24); intro v3 w29 ho3 hb hg_ hnew_; clear hg_ hnew_; (first | rw [← Ny2.out] at ho3 | (simp only [Int.reduceToNat] at ho3; rw [← Ny2.out] at ho3)); have O3 := sqL ho3 (sqB1 HB E0); replace B0 := sqT B0 hb; replace HB := sqS (sqB1 HB E0) hb; clear hb ho3))
 go_ret2
 exact ⟨_, Z5, Z26 O3, sqB1 HB E0⟩

def F33.l0 : Nat → List Int → ByteArray → Int → Option (ByteArray)
 | 0, _, _, _ => none
 | k + 1, x0, x3, x4 => if x4 < (x0.length : Int) then (if x4 > 0 then (if x3.size + 1 ≤ 9223372036854775807 then (if 0 ≤ x4 then ((F4.f k (rd x0 x4)).bind fun t0 => (if (x3 ++ (⟨#[44]⟩ : ByteArray)).size + t0.size ≤ 9223372036854775807 then (F33.l0 k x0 ((x3 ++ (⟨#[44]⟩ : ByteArray)) ++ t0) (wrap64 (x4 + 1))) else (none))) else (none)) else (none)) else (if 0 ≤ x4 then ((F4.f k (rd x0 x4)).bind fun t1 => (if x3.size + t1.size ≤ 9223372036854775807 then (F33.l0 k x0 (x3 ++ t1) (wrap64 (x4 + 1))) else (none))) else (none))) else (if (x0.length : Int) = 0 then (some (⟨#[110, 111, 110, 101]⟩ : ByteArray)) else (some x3))
def F33.f (k : Nat) (l0 : List Int) : Option (ByteArray) := F33.l0 k l0 (⟨#[]⟩ : ByteArray) 0
theorem F33.c (k : Nat) (A0 : Option Addr) (c0 : Nat) (l0 : List Int) (r : ByteArray) (w : World) (hr0 : Kd.C (Kd.int .i64) w A0 l0.length l0) (hc0 : l0.length ≤ c0) (H : F33.f k l0 = some r) :
  Calls prog 92 #[.slice A0 l0.length c0] w fun e w' => e = .returned (.string r) ∧ Below w.heap.size w w' := by
 have HR0 := sqa hr0
 have HC0 := sqa hc0
 clear hr0 hc0
 have HB := sqh w
 unfold F33.f at H
 have H' := sqa H
 clear H
 go_enter func92, ntmps92
 go_wp2
 go_loopg [3, 4] k (fun kq v3 v4 w' => ∃ (x3_1 : ByteArray) (x4_1 : Int), v3 = .string x3_1 ∧ v4 = .int .i64 x4_1 ∧ Aside0 (F33.l0 kq l0 x3_1 x4_1 = some r) ∧ Aside0 (kq ≤ k) ∧ Aside0 (Below w.heap.size w w'))
 case atStart => exact ⟨((⟨#[]⟩ : ByteArray)), (0), Z1, Z1, H', ⟨Nat.le_refl _⟩, ⟨sqB HB⟩⟩
 case round =>
  clear H'
  obtain ⟨x3_1, x4_1, rfl, rfl, HA, HK1, HB⟩ := hrel
  cases gk with
  | zero => exact absurd HA.out (by simp [F33.l0])
  | succ k1 =>
   have H := HA.out
   clear HA
   simp only [F33.l0] at H
   obtain ⟨c2b0, H⟩ | ⟨c2b0, H⟩ := sqi3 H
   ·by_cases c3 : x4_1 > 0
    ·rw [if_pos c3] at H
     have c3b0 : decide (0 < x4_1) = true := decide_eq_true c3
     clear c3
     obtain ⟨c4, c4b0, c4b1, H⟩ := sqJ5 H
     try have c4b2 : (9223372036854775807 < x3_1.size + 1) = False := eq_false (Nat.not_lt.2 c4)
     obtain ⟨c5b0, H⟩ := sqJ2 H
     obtain ⟨t0, A6, H⟩ := sqD H
     obtain ⟨c7, c7b0, c7b1, H⟩ := sqJ5 H
     try have c7b2 : (9223372036854775807 < (x3_1 ++ (⟨#[44]⟩ : ByteArray)).size + t0.size) = False := eq_false (Nat.not_lt.2 c7)
     try have c7b7 : (9223372036854775807 < x3_1.size + 1 + t0.size) = False := by (have h_ := c7b2; (repeat rw [ByteArray.size_append] at h_); exact h_)
     have H' := sqa H
     clear H
     have p0 : 0 ≤ (x4_1 : Int) := of_decide_eq_true Z16
     have q0 : x4_1 < (l0.length : Int) := of_decide_eq_true Z16
     obtain ⟨ad0, e0, hx0⟩ := Kd.at_int HR0.1 x4_1 p0 q0
     cases e0
     replace hx0 := (HB.1.cell (World.block_lt_of_cell? w _ hx0)).trans hx0
     replace p0 := eq_true p0
     replace q0 := eq_true q0
     go_wp2_with (first | ((with_reducible refine sqc 93 rfl ?_); refine sqv (some 20) func93 (F4.c k1 (rd l0 x4_1) t0 _ A6.1) fun w8 hb => ?_; replace HB := sqS (sqB HB) hb))
     go_roundg k1
     case measure => have := HK1.out; omega
     case rel => exact ⟨((x3_1 ++ (⟨#[44]⟩ : ByteArray)) ++ t0), (wrap64 (x4_1 + 1)), Z1, Z1, H', ⟨Z2 HK1⟩, ⟨sqB HB⟩⟩
    rw [if_neg c3] at H
    have c3b0 : decide (0 < x4_1) = false := decide_eq_false c3
    clear c3
    obtain ⟨c9b0, H⟩ := sqJ2 H
    obtain ⟨t1, A1, H⟩ := sqD H
    obtain ⟨c1, c6, c8, H⟩ := sqJ5 H
    try have c10 : (9223372036854775807 < x3_1.size + t1.size) = False := eq_false (Nat.not_lt.2 c1)
    have H' := sqa H
    clear H
    have p1 : 0 ≤ (x4_1 : Int) := of_decide_eq_true Z16
    have q1 : x4_1 < (l0.length : Int) := of_decide_eq_true Z16
    obtain ⟨ad1, e1, hx1⟩ := Kd.at_int HR0.1 x4_1 p1 q1
    cases e1
    replace hx1 := (HB.1.cell (World.block_lt_of_cell? w _ hx1)).trans hx1
    replace p1 := eq_true p1
    replace q1 := eq_true q1
    go_wp2_with (first | ((with_reducible refine sqc 93 rfl ?_); refine sqv (some 20) func93 (F4.c k1 (rd l0 x4_1) t1 _ A1.1) fun w0 hb => ?_; replace HB := sqS (sqB HB) hb))
    go_roundg k1
    case measure => have := HK1.out; omega
    case rel => exact ⟨(x3_1 ++ t1), (wrap64 (x4_1 + 1)), Z1, Z1, H', ⟨Z2 HK1⟩, ⟨sqB HB⟩⟩
   obtain ⟨c14, c15, H⟩ | ⟨c14, c15, c13, H⟩ := sqi4 H
   ·obtain rfl := sqo H
    go_wp2
    go_ret
    exact ⟨Z5, sqB HB⟩
   have c16 : ¬ (l0 = []) := fun h_ => c13 (by rw [h_]; rfl)
   obtain rfl := sqo H
   go_wp2
   go_ret
   exact ⟨Z5, sqB HB⟩

def F32.l0 : Nat → List Int → Int → Int → Int → Int → Option (List Int)
 | 0, _, _, _, _, _ => none
 | k + 1, x3, x4, x5, x0, x1 => if x5 > 0 then ((F0.f k x0 x1).bind fun t0 => (if t0 = true then (if x5 = 0 then (none) else (if x3.length < 17592186044416 then (F32.l0 k (x3 ++ [wrap64 (Int.tdiv x4 x5)]) x5 (Int.tmod x4 x5) x0 x1) else (none))) else (some x3))) else (some x3)
def F32.f (k : Nat) (a0_0 : Int) (a0_1 : Int) : Option (List Int) := F32.l0 k (([] : List Int)) (mx a0_0 (wrap64 (-a0_0))) a0_1 a0_0 a0_1
theorem F32.c (k : Nat) (a0_0 : Int) (a0_1 : Int) (r : List Int) (w : World) (H : F32.f k a0_0 a0_1 = some r) :
  Calls prog 130 #[.agg #[.int .i64 a0_0, .int .i64 a0_1]] w fun e w' => ∃ v0_ : Value, e = .returned (v0_) ∧ Kd.R (Kd.int .i64) 3 w' w.heap.size (fun _ => True) v0_ r ∧ Below w.heap.size w w' := by
 have hu31 := underlying31
 have HB := sqh w
 unfold F32.f at H
 obtain ⟨y0, hy0⟩ : ∃ y_ : List Int, y_ = (([] : List Int)) := ⟨_, rfl⟩
 replace H : (F32.l0 k y0 (mx a0_0 (wrap64 (-a0_0))) a0_1 a0_0 a0_1) = some r := sqW hy0 H
 have Ny0 := sqa hy0
 clear hy0
 obtain ⟨ji2, hji2⟩ : ∃ j_ : Int, (mx a0_0 (wrap64 (-a0_0))) = j_ := ⟨_, rfl⟩
 replace H : (F32.l0 k y0 ji2 a0_1 a0_0 a0_1) = some r := by first | (rw [hji2] at H; exact H) | (simp only [hji2] at H ⊢; exact H)
 have hji2_ : (if a0_0 < (wrap64 (-a0_0)) then (wrap64 (-a0_0)) else a0_0) = ji2 := hji2
 have H' := sqa H
 clear H
 go_enter func130, ntmps130
 go_wp2_with (first | ((with_reducible refine sqd 1 rfl ?_); refine sqx0 w (sqB HB) #[.int .i64 a0_0, .int .i64 a0_1] 31 fun g0 w3 B0 E0 HB => ?_) | ((with_reducible refine sqd 7 rfl ?_); refine Kd.R_lit (Kd.int .i64) _ 3 ?hg (N := 7) ?hd (xs := ([] : List Int)) (inner := []) (ok := fun _ => True) (okp := fun _ => True) ?hr ?hp (fun _ hk => hk) trivial (Below.refl _ _) (Nat.le_refl _) (by simp) ?_; (case hd => rfl); (case hg => rfl); (case hr => exact Z17); (case hp => exact Z24); intro v0 w4 ho5 hb hg_ hnew_; clear hg_ hnew_; (first | rw [← Ny0.out] at ho5 | (simp only [Int.reduceToNat] at ho5; rw [← Ny0.out] at ho5)); have O0 := sqL ho5 (sqB1 HB E0); replace B0 := sqT B0 hb; replace HB := sqS (sqB1 HB E0) hb; clear hb ho5; have := sqY2 B0))
 go_loopg [3, 4, 5] k (fun kq v3 v4 v5 w' => ∃ (x3_1 : List Int) (x4_1 : Int) (x5_1 : Int), v4 = .int .i64 x4_1 ∧ v5 = .int .i64 x5_1 ∧ Aside0 (F32.l0 kq x3_1 x4_1 x5_1 a0_0 a0_1 = some r) ∧ Aside0 (kq ≤ k) ∧ Aside0 (Kd.R (Kd.int .i64) 3 w' w.heap.size (fun _ => True) v3 x3_1) ∧ Aside0 (w'.heap[g0]? = some (.cells #[.int .i64 a0_0, .int .i64 a0_1] 31 (0, 0))) ∧ Aside0 (Below w.heap.size w w'))
 case atStart => exact ⟨(y0), (ji2), (a0_1), Z52, Z1, H', ⟨Nat.le_refl _⟩, ⟨sqR O0⟩, ⟨sqK B0⟩, ⟨sqB1 HB E0⟩⟩
 case round =>
  clear H'
  obtain ⟨x3_1, x4_1, x5_1, rfl, rfl, HA, HK1, O1, B0, HB⟩ := hrel
  cases gk with
  | zero => exact absurd HA.out (by simp [F32.l0])
  | succ k1 =>
   have H := HA.out
   clear HA
   simp only [F32.l0] at H
   obtain ⟨c7b0, H⟩ | ⟨c7b0, H⟩ := sqi3g H
   ·obtain ⟨t0, A8, H⟩ := sqD H
    obtain rfl | rfl := sqt t0
    ·rw [if_pos rfl] at H
     obtain ⟨c10, H⟩ | ⟨c10, H⟩ := sqi2 H
     ·exact absurd H (by simp)
     have c0 := sqe0 c10
     have c1 := sqn1 c10
     obtain ⟨c2, H⟩ := sqI H
     have LMc0 := sqa c2
     clear c2
     obtain ⟨y1, hy1⟩ : ∃ y_ : List Int, y_ = (x3_1 ++ [wrap64 (Int.tdiv x4_1 x5_1)]) := ⟨_, rfl⟩
     replace H : (F32.l0 k1 y1 x5_1 (Int.tmod x4_1 x5_1) a0_0 a0_1) = some r := sqW hy1 H
     have Ny1 := sqa hy1
     clear hy1
     have H' := sqa H
     clear H
     have := sqY2 B0
     go_wp2_with (first | (go_at_call 77; (with_reducible refine (F0.c k1 a0_0 a0_1 true _ A8.1).mono ?_); rintro e w1 ⟨rfl, hb⟩; replace O1 := sqU O1 hb; replace B0 := sqT B0 hb; replace HB := sqS (sqB1 HB E0) hb) | ((with_reducible refine gate_builtin (b := .append) (xs := #[.tmp 22, .tmp 26]) rfl ?_); at_builtin; refine Kd.R_append (Kd.int .i64) (w0 := w) w.heap.size rfl (.tmp 22) (.tmp 26) 109 3 (.int .i64 0) 8 rfl underlying109 info3 rfl (by decide) (by omega) u3 x3_1 (wrap64 (Int.tdiv x4_1 x5_1)) [.int .i64 (wrap64 (Int.tdiv x4_1 x5_1))] (fun _ => True) (fun _ => False) rfl rfl ?aP (fun _ hk => hk.elim) ?aF ?aO ?aB ?aS ?aL ?_; (case aP => exact rfl); (case aB => exact (sqB1 HB E0)); (case aF => exact Z25); (case aO => exact (sqR O1)); (case aS => exact (below_size (sqB1 HB E0))); (case aL => exact Z2 LMc0); intro v1 w2 ho hb hg hat; rw [← Ny1.out] at ho; replace B0 := sqa (blk_grown (sqK B0) hg (Kd.R_ne O1.1 B0.1 (by decide))); replace HB := sqa (hb); have O2 := sqa (ho); clear O1; clear ho hb hg hat))
     go_roundg k1
     case measure => have := HK1.out; omega
     case rel => exact ⟨(y1), (x5_1), (Int.tmod x4_1 x5_1), Z1, Z1, H', ⟨Z2 HK1⟩, ⟨sqR O2⟩, ⟨sqK B0⟩, ⟨sqB1 HB E0⟩⟩
    rw [if_neg sqF] at H
    obtain rfl := sqo H
    have := sqY2 B0
    go_wp2_with (first | (go_at_call 77; (with_reducible refine (F0.c k1 a0_0 a0_1 false _ A8.1).mono ?_); rintro e w5 ⟨rfl, hb⟩; replace O1 := sqU O1 hb; replace B0 := sqT B0 hb; replace HB := sqS (sqB1 HB E0) hb))
    go_ret
    exact ⟨_, Z53, Z26 O1, sqB1 HB E0⟩
   obtain rfl := sqo H
   go_wp2
   go_ret
   exact ⟨_, Z53, Z26 O1, sqB1 HB E0⟩

def F46.l0 : Nat → Int → List Int → Int → Option (Int)
 | 0, _, _, _ => none
 | k + 1, x3, x4, x5 => if x5 < (x4.length : Int) then (if 0 ≤ x5 then (F46.l0 k (wrap64 (x3 + (rd x4 x5))) x4 (wrap64 (x5 + 1))) else (none)) else (some x3)
def F46.f (k : Nat) (a0_0 : Int) (a0_1 : Int) : Option (Int) := (F0.f k a0_0 a0_1).bind fun t0 => (if t0 = true then ((F32.f k a0_0 a0_1).bind fun t1 => (F46.l0 k 0 t1 0)) else (some (-1)))
theorem F46.c (k : Nat) (a0_0 : Int) (a0_1 : Int) (r : Int) (w : World) (H : F46.f k a0_0 a0_1 = some r) :
  Calls prog 94 #[.agg #[.int .i64 a0_0, .int .i64 a0_1]] w fun e w' => e = .returned (.int .i64 r) ∧ Below w.heap.size w w' := by
 have hu31 := underlying31
 have HB := sqh w
 unfold F46.f at H
 obtain ⟨t0, A2, H⟩ := sqD H
 obtain rfl | rfl := sqt t0
 ·rw [if_pos rfl] at H
  obtain ⟨t1, A4, H⟩ := sqD H
  have H' := sqa H
  clear H
  go_enter func94, ntmps94
  go_wp2_with (first | ((with_reducible refine sqd 1 rfl ?_); refine sqx0 w (sqB HB) #[.int .i64 a0_0, .int .i64 a0_1] 31 fun g0 w5 B0 E0 HB => ?_; have := sqY2 B0) | ((with_reducible refine sqc 77 rfl ?_); refine sqv (some 7) func77 (F0.c k a0_0 a0_1 true _ A2.1) fun w7 hb => ?_; replace B0 := sqT B0 hb; replace HB := sqS (sqB1 HB E0) hb; have := sqY2 B0) | ((with_reducible refine sqc 130 rfl ?_); refine sqvo (some 10) func130 (F32.c k a0_0 a0_1 t1 _ A4.1) fun v0 w9 ho0 hb => ?_; have O0 := sqL ho0 (sqB1 HB E0); replace B0 := sqT B0 hb; replace HB := sqS (sqB1 HB E0) hb; (try clear ho0)))
  go_loopg [3, 5] k (fun kq v3 v5 w' => ∃ (x3_1 : Int) (x5_1 : Int), v3 = .int .i64 x3_1 ∧ v5 = .int .i64 x5_1 ∧ Aside0 (F46.l0 kq x3_1 t1 x5_1 = some r) ∧ Aside0 (kq ≤ k) ∧ Aside0 (Kd.R (Kd.int .i64) 3 w' w.heap.size (fun _ => True) v0 t1) ∧ Aside0 (w'.heap[g0]? = some (.cells #[.int .i64 a0_0, .int .i64 a0_1] 31 (0, 0))) ∧ Aside0 (Below w.heap.size w w'))
  case atStart => exact ⟨(0), (0), Z1, Z1, H', ⟨Nat.le_refl _⟩, ⟨sqR O0⟩, ⟨sqK B0⟩, ⟨sqB1 HB E0⟩⟩
  case round =>
   clear H'
   obtain ⟨x3_1, x5_1, rfl, rfl, HA, HK1, O1, B0, HB⟩ := hrel
   cases gk with
   | zero => exact absurd HA.out (by simp [F46.l0])
   | succ k1 =>
    have H := HA.out
    clear HA
    simp only [F46.l0] at H
    obtain ⟨c0, H⟩ | ⟨c0, H⟩ := sqi3 H
    ·obtain ⟨c2, H⟩ := sqJ2 H
     have H' := sqa H
     clear H
     obtain ⟨Ao0, co0, eo0⟩ := Kd.R_slice O1.1
     subst eo0
     have p0 : 0 ≤ (x5_1 : Int) := of_decide_eq_true Z16
     have q0 : x5_1 < (t1.length : Int) := of_decide_eq_true Z16
     obtain ⟨ad0, e0, hx0⟩ := Kd.at_int (Kd.R_reads' O1.1).2.2 x5_1 p0 q0
     cases e0
     replace p0 := eq_true p0
     replace q0 := eq_true q0
     go_wp2
     go_roundg k1
     case measure => have := HK1.out; omega
     case rel => exact ⟨(wrap64 (x3_1 + (rd t1 x5_1))), (wrap64 (x5_1 + 1)), Z1, Z1, H', ⟨Z2 HK1⟩, ⟨sqR O1⟩, ⟨sqK B0⟩, ⟨sqB1 HB E0⟩⟩
    obtain rfl := sqo H
    obtain ⟨Ao1, co1, eo1⟩ := Kd.R_slice O1.1
    subst eo1
    go_wp2
    go_ret
    exact ⟨Z5, sqB1 HB E0⟩
 rw [if_neg sqF] at H
 obtain rfl := sqo H
 go_enter func94, ntmps94
 go_wp2_with (first | ((with_reducible refine sqd 1 rfl ?_); refine sqx0 w (sqB HB) #[.int .i64 a0_0, .int .i64 a0_1] 31 fun g0 w0 B0 E0 HB => ?_; have := sqY2 B0) | ((with_reducible refine sqc 77 rfl ?_); refine sqv (some 7) func77 (F0.c k a0_0 a0_1 false _ A2.1) fun w1 hb => ?_; replace B0 := sqT B0 hb; replace HB := sqS (sqB1 HB E0) hb))
 go_ret
 exact ⟨Z5, sqB1 HB E0⟩

def F84.f (k : Nat) (a0_0 : Int) (a0_1 : Int) : Option (Int) := (F0.f k a0_0 a0_1).bind fun t0 => (if t0 = true then (if (Int.tmod a0_0 2) = 0 then (some 0) else (if (Int.tmod a0_1 2) = 0 then (some 1) else (some 2))) else (some (-1)))
theorem F84.c (k : Nat) (a0_0 : Int) (a0_1 : Int) (r : Int) (w : World) (H : F84.f k a0_0 a0_1 = some r) :
  Calls prog 131 #[.agg #[.int .i64 a0_0, .int .i64 a0_1]] w fun e w' => e = .returned (.int .i64 r) ∧ Below w.heap.size w w' := by
 have hu31 := underlying31
 have HB := sqh w
 unfold F84.f at H
 obtain ⟨t0, A2, H⟩ := sqD H
 obtain rfl | rfl := sqt t0
 ·rw [if_pos rfl] at H
  obtain ⟨c4b0, c4b1, H⟩ | ⟨c4b0, c4b1, c4, H⟩ := sqi4 H
  ·obtain rfl := sqo H
   go_enter func131, ntmps131
   go_wp2_with (first | ((with_reducible refine sqd 1 rfl ?_); refine sqx0 w (sqB HB) #[.int .i64 a0_0, .int .i64 a0_1] 31 fun g0 w5 B0 E0 HB => ?_; have := sqY2 B0) | ((with_reducible refine sqc 77 rfl ?_); refine sqv (some 5) func77 (F0.c k a0_0 a0_1 true _ A2.1) fun w7 hb => ?_; replace B0 := sqT B0 hb; replace HB := sqS (sqB1 HB E0) hb; have := sqY2 B0))
   go_ret
   exact ⟨Z5, sqB1 HB E0⟩
  obtain ⟨c9b0, c9b1, H⟩ | ⟨c9b0, c9b1, c9, H⟩ := sqi4 H
  ·obtain rfl := sqo H
   go_enter func131, ntmps131
   go_wp2_with (first | ((with_reducible refine sqd 1 rfl ?_); refine sqx0 w (sqB HB) #[.int .i64 a0_0, .int .i64 a0_1] 31 fun g0 w0 B0 E0 HB => ?_; have := sqY2 B0) | ((with_reducible refine sqc 77 rfl ?_); refine sqv (some 5) func77 (F0.c k a0_0 a0_1 true _ A2.1) fun w1 hb => ?_; replace B0 := sqT B0 hb; replace HB := sqS (sqB1 HB E0) hb; have := sqY2 B0))
   go_ret
   exact ⟨Z5, sqB1 HB E0⟩
  obtain rfl := sqo H
  go_enter func131, ntmps131
  go_wp2_with (first | ((with_reducible refine sqd 1 rfl ?_); refine sqx0 w (sqB HB) #[.int .i64 a0_0, .int .i64 a0_1] 31 fun g0 w2 B0 E0 HB => ?_; have := sqY2 B0) | ((with_reducible refine sqc 77 rfl ?_); refine sqv (some 5) func77 (F0.c k a0_0 a0_1 true _ A2.1) fun w3 hb => ?_; replace B0 := sqT B0 hb; replace HB := sqS (sqB1 HB E0) hb; have := sqY2 B0))
  go_ret
  exact ⟨Z5, sqB1 HB E0⟩
 rw [if_neg sqF] at H
 obtain rfl := sqo H
 go_enter func131, ntmps131
 go_wp2_with (first | ((with_reducible refine sqd 1 rfl ?_); refine sqx0 w (sqB HB) #[.int .i64 a0_0, .int .i64 a0_1] 31 fun g0 w4 B0 E0 HB => ?_; have := sqY2 B0) | ((with_reducible refine sqc 77 rfl ?_); refine sqv (some 5) func77 (F0.c k a0_0 a0_1 false _ A2.1) fun w6 hb => ?_; replace B0 := sqT B0 hb; replace HB := sqS (sqB1 HB E0) hb))
 go_ret
 exact ⟨Z5, sqB1 HB E0⟩

def F77.f (k : Nat) (a0_0 : Int) (a0_1 : Int) : Option (List Int) := (F84.f k a0_0 a0_1).bind fun t0 => (if t0 = 0 then (some (([1, 0, 3, 2] : List Int))) else (if t0 = 1 then (some (([2, 3, 0, 1] : List Int))) else (if t0 = 2 then (some (([3, 2, 1, 0] : List Int))) else (some (([] : List Int))))))
theorem F77.c (k : Nat) (a0_0 : Int) (a0_1 : Int) (r : List Int) (w : World) (H : F77.f k a0_0 a0_1 = some r) :
  Calls prog 95 #[.agg #[.int .i64 a0_0, .int .i64 a0_1]] w fun e w' => ∃ v0_ : Value, e = .returned (v0_) ∧ Kd.R (Kd.int .i64) 3 w' w.heap.size (fun _ => True) v0_ r ∧ Below w.heap.size w w' := by
 have hu31 := underlying31
 have HB := sqh w
 unfold F77.f at H
 obtain ⟨t0, A2, H⟩ := sqD H
 obtain ⟨c3b0, c3b1, H⟩ | ⟨c3b0, c3b1, c3, H⟩ := sqi4 H
 ·obtain ⟨y0, hy0⟩ : ∃ y_ : List Int, y_ = (([1, 0, 3, 2] : List Int)) := ⟨_, rfl⟩
  replace H : (some y0) = some r := sqW hy0 H
  have Ny0 := sqa hy0
  clear hy0
  obtain rfl := sqo H
  go_enter func95, ntmps95
  go_wp2_with (first | ((with_reducible refine sqd 1 rfl ?_); refine sqx0 w (sqB HB) #[.int .i64 a0_0, .int .i64 a0_1] 31 fun g0 w4 B0 E0 HB => ?_; have := sqY2 B0) | ((with_reducible refine sqc 131 rfl ?_); refine sqv (some 4) func131 (F84.c k a0_0 a0_1 t0 _ A2.1) fun w6 hb => ?_; replace B0 := sqT B0 hb; replace HB := sqS (sqB1 HB E0) hb) | ((with_reducible refine sqd 7 rfl ?_); refine Kd.R_lit (Kd.int .i64) _ 3 ?hg (N := 7) ?hd (xs := ([1, 0, 3, 2] : List Int)) (inner := [.int .i64 1, .int .i64 0, .int .i64 3, .int .i64 2]) (ok := fun _ => True) (okp := fun _ => True) ?hr ?hp (fun _ hk => hk) trivial (Below.refl _ _) (Nat.le_refl _) (by simp) ?_; (case hd => rfl); (case hg => rfl); (case hr => exact Z17); (case hp => exact Z54); intro v0 w7 ho8 hb hg_ hnew_; clear hg_ hnew_; (first | rw [← Ny0.out] at ho8 | (simp only [Int.reduceToNat] at ho8; rw [← Ny0.out] at ho8)); have O0 := sqL ho8 (sqB1 HB E0); replace B0 := sqT B0 hb; replace HB := sqS (sqB1 HB E0) hb; clear hb ho8))
  go_ret
  exact ⟨_, Z5, Z26 O0, sqB1 HB E0⟩
 obtain ⟨c9b0, c9b1, H⟩ | ⟨c9b0, c9b1, c9, H⟩ := sqi4 H
 ·obtain ⟨y1, hy1⟩ : ∃ y_ : List Int, y_ = (([2, 3, 0, 1] : List Int)) := ⟨_, rfl⟩
  replace H : (some y1) = some r := sqW hy1 H
  have Ny1 := sqa hy1
  clear hy1
  obtain rfl := sqo H
  go_enter func95, ntmps95
  go_wp2_with (first | ((with_reducible refine sqd 1 rfl ?_); refine sqx0 w (sqB HB) #[.int .i64 a0_0, .int .i64 a0_1] 31 fun g0 w0 B0 E0 HB => ?_; have := sqY2 B0) | ((with_reducible refine sqc 131 rfl ?_); refine sqv (some 4) func131 (F84.c k a0_0 a0_1 t0 _ A2.1) fun w1 hb => ?_; replace B0 := sqT B0 hb; replace HB := sqS (sqB1 HB E0) hb) | ((with_reducible refine sqd 10 rfl ?_); refine Kd.R_lit (Kd.int .i64) _ 3 ?hg (N := 10) ?hd (xs := ([2, 3, 0, 1] : List Int)) (inner := [.int .i64 2, .int .i64 3, .int .i64 0, .int .i64 1]) (ok := fun _ => True) (okp := fun _ => True) ?hr ?hp (fun _ hk => hk) trivial (Below.refl _ _) (Nat.le_refl _) (by simp) ?_; (case hd => rfl); (case hg => rfl); (case hr => exact Z17); (case hp => exact Z55); intro v1 w2 ho0 hb hg_ hnew_; clear hg_ hnew_; (first | rw [← Ny1.out] at ho0 | (simp only [Int.reduceToNat] at ho0; rw [← Ny1.out] at ho0)); have O1 := sqL ho0 (sqB1 HB E0); replace B0 := sqT B0 hb; replace HB := sqS (sqB1 HB E0) hb; clear hb ho0))
  go_ret
  exact ⟨_, Z5, Z26 O1, sqB1 HB E0⟩
 obtain ⟨c1, c2, H⟩ | ⟨c1, c2, c0, H⟩ := sqi4 H
 ·obtain ⟨y2, hy2⟩ : ∃ y_ : List Int, y_ = (([3, 2, 1, 0] : List Int)) := ⟨_, rfl⟩
  replace H : (some y2) = some r := sqW hy2 H
  have Ny2 := sqa hy2
  clear hy2
  obtain rfl := sqo H
  go_enter func95, ntmps95
  go_wp2_with (first | ((with_reducible refine sqd 1 rfl ?_); refine sqx0 w (sqB HB) #[.int .i64 a0_0, .int .i64 a0_1] 31 fun g0 w3 B0 E0 HB => ?_; have := sqY2 B0) | ((with_reducible refine sqc 131 rfl ?_); refine sqv (some 4) func131 (F84.c k a0_0 a0_1 t0 _ A2.1) fun w5 hb => ?_; replace B0 := sqT B0 hb; replace HB := sqS (sqB1 HB E0) hb) | ((with_reducible refine sqd 13 rfl ?_); refine Kd.R_lit (Kd.int .i64) _ 3 ?hg (N := 13) ?hd (xs := ([3, 2, 1, 0] : List Int)) (inner := [.int .i64 3, .int .i64 2, .int .i64 1, .int .i64 0]) (ok := fun _ => True) (okp := fun _ => True) ?hr ?hp (fun _ hk => hk) trivial (Below.refl _ _) (Nat.le_refl _) (by simp) ?_; (case hd => rfl); (case hg => rfl); (case hr => exact Z17); (case hp => exact Z56); intro v2 w8 ho1 hb hg_ hnew_; clear hg_ hnew_; (first | rw [← Ny2.out] at ho1 | (simp only [Int.reduceToNat] at ho1; rw [← Ny2.out] at ho1)); have O2 := sqL ho1 (sqB1 HB E0); replace B0 := sqT B0 hb; replace HB := sqS (sqB1 HB E0) hb; clear hb ho1))
  go_ret
  exact ⟨_, Z5, Z26 O2, sqB1 HB E0⟩
 obtain ⟨y3, hy3⟩ : ∃ y_ : List Int, y_ = (([] : List Int)) := ⟨_, rfl⟩
 replace H : (some y3) = some r := sqW hy3 H
 have Ny3 := sqa hy3
 clear hy3
 obtain rfl := sqo H
 go_enter func95, ntmps95
 go_wp2_with (first | ((with_reducible refine sqd 1 rfl ?_); refine sqx0 w (sqB HB) #[.int .i64 a0_0, .int .i64 a0_1] 31 fun g0 w9 B0 E0 HB => ?_; have := sqY2 B0) | ((with_reducible refine sqc 131 rfl ?_); refine sqv (some 4) func131 (F84.c k a0_0 a0_1 t0 _ A2.1) fun w23 hb => ?_; replace B0 := sqT B0 hb; replace HB := sqS (sqB1 HB E0) hb) | ((with_reducible refine sqd 14 rfl ?_); refine Kd.R_lit (Kd.int .i64) _ 3 ?hg (N := 14) ?hd (xs := ([] : List Int)) (inner := []) (ok := fun _ => True) (okp := fun _ => True) ?hr ?hp (fun _ hk => hk) trivial (Below.refl _ _) (Nat.le_refl _) (by simp) ?_; (case hd => rfl); (case hg => rfl); (case hr => exact Z17); (case hp => exact Z24); intro v3 w24 ho2 hb hg_ hnew_; clear hg_ hnew_; (first | rw [← Ny3.out] at ho2 | (simp only [Int.reduceToNat] at ho2; rw [← Ny3.out] at ho2)); have O3 := sqL ho2 (sqB1 HB E0); replace B0 := sqT B0 hb; replace HB := sqS (sqB1 HB E0) hb; clear hb ho2))
 go_ret
 exact ⟨_, Z5, Z26 O3, sqB1 HB E0⟩

end Go.Proofs.YtofmlbgfcohhoaaGreatDoor.PFnDeskSay
