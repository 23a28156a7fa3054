/- Lean functions of the Go functions that the law FnDeskRun reaches, each with its contract: made by a program of this session. -/
import Derived.Test.YtofmlbgfcohhoaaGreatDoorPFnDeskRunx0
import Derived.Test.YtofmlbgfcohhoaaGreatDoorPFnDeskRunx3
namespace Go.Proofs.YtofmlbgfcohhoaaGreatDoor.PFnDeskRun
open Go.RowKit Go.Proofs.YtofmlbgfcohhoaaGreatDoorW.PrintWords Go.Proofs.YtofmlbgfcohhoaaGreatDoorW.PrintLast Go.Proofs.YtofmlbgfcohhoaaGreatDoorW.PrintMore Go.Proofs.YtofmlbgfcohhoaaGreatDoor.Lib
attribute [local go_sem] max2_int min2_int max_two min_two max_three min_three max_four min_four   -- for this text's walks alone
set_option linter.unusedVariables false
set_option linter.unusedSimpArgs false

/-! ### impl_FractionOk: function 69 -/
def impl_FractionOk.f (k : Nat) (a0_0 : Int) (a0_1 : Int) : Option (Bool) := (impl_isFraction.f k a0_0 a0_1).bind fun t120 => (some t120)
theorem impl_FractionOk.mono : ∀ a0 a1 k, LeO (impl_FractionOk.f k a0 a1) (impl_FractionOk.f (k + 1) a0 a1) := by
 intro a0 a1 k
 unfold impl_FractionOk.f
 repeat' first
   | (with_reducible exact impl_isFraction.mono _ _ _)
   | (with_reducible exact LeO.refl _)
   | (with_reducible exact LeO.none _)
   | (with_reducible refine LeO.ite ?_ ?_)
   | (with_reducible refine LeO.bind ?_ (fun _ => ?_))
set_option maxHeartbeats 8000000 in
set_option maxRecDepth 100000 in
theorem impl_FractionOk.calls (k : Nat) (a0_0 : Int) (a0_1 : Int) (r : Bool) (w : World) (h : impl_FractionOk.f k a0_0 a0_1 = some r) :
  Calls Tryz.prog 69 #[.agg #[.int .i64 a0_0, .int .i64 a0_1]] w fun e w' => e = .returned (.bool r) ∧ Below w.heap.size w w' := by
 have hu31 := Tryz.underlying31
 have HB := Aside0.mk (Below.refl w.heap.size w)
 have H : ((impl_isFraction.f k a0_0 a0_1).bind fun t120 => (some t120)) = some r := h
 clear h
 obtain ⟨t120, A2, H⟩ := sqD H
 obtain rfl := Option.some.inj H
 go_enter Tryz.func69, Tryz.ntmps69
 go_wp2_with (first | ((with_reducible refine gate_dst (N := 1) rfl ?_); refine sqBox (N := 1) (cs := #[.int .i64 a0_0, .int .i64 a0_1]) (t := 31) ?_; intro gb119 hg w3 BK119 hb; have GW119 := Aside0.mk ((sqG hg (sqB HB))); have GE119 := GW119; replace HB := sqS (sqB HB) hb; clear hb hg; obtain ⟨hcz4_0, hcz4_1, hfz4_0, hfz4_1⟩ := sqY2 BK119) | ((with_reducible refine gate_callee (f := 70) rfl ?_); refine goesL_ (some 4) rfl rfl Tryz.func70 (by kernel_rfl) rfl #[.agg #[.int .i64 a0_0, .int .i64 a0_1]] rfl sqA ?_; (with_reducible refine (impl_isFraction.calls k a0_0 a0_1 t120 _ A2.out).mono ?_); rintro e w5 ⟨rfl, hb⟩; refine ⟨_, rfl, ?_⟩; replace BK119 := sqT BK119 hb; replace HB := sqS (sqB1 HB GE119) hb; (try clear hb)))
 go_ret
 exact ⟨Z15, sqB1 HB GE119⟩

/-! ### laws_alive: function 24 -/
def laws_alive.f (k : Nat)  : Option (Bool) := (impl_FractionOk.f k 1 2).bind fun t121 => (if t121 = true then ((impl_FractionOk.f k 2 2).bind fun t122 => (some (!t122))) else (some false))
theorem laws_alive.mono : ∀ k, LeO (laws_alive.f k ) (laws_alive.f (k + 1) ) := by
 intro  k
 unfold laws_alive.f
 repeat' first
   | (with_reducible exact impl_FractionOk.mono _ _ _)
   | (with_reducible exact LeO.refl _)
   | (with_reducible exact LeO.none _)
   | (with_reducible refine LeO.ite ?_ ?_)
   | (with_reducible refine LeO.bind ?_ (fun _ => ?_))
set_option maxHeartbeats 8000000 in
set_option maxRecDepth 100000 in
theorem laws_alive.calls (k : Nat)  (r : Bool) (w : World) (h : laws_alive.f k  = some r) :
  Calls Tryz.prog 24 #[] w fun e w' => e = .returned (.bool r) ∧ Below w.heap.size w w' := by
 have hu31 := Tryz.underlying31
 have HB := Aside0.mk (Below.refl w.heap.size w)
 have H : ((impl_FractionOk.f k 1 2).bind fun t121 => (if t121 = true then ((impl_FractionOk.f k 2 2).bind fun t122 => (some (!t122))) else (some false))) = some r := h
 clear h
 obtain ⟨t121, A1, H⟩ := sqD H
 by_cases c2 : t121 = true
 ·subst c2
  rw [if_pos rfl] at H
  obtain ⟨t122, A3, H⟩ := sqD H
  obtain rfl := Option.some.inj H
  go_enter Tryz.func24, Tryz.ntmps24
  go_wp2_with (first | ((with_reducible refine gate_callee (f := 69) rfl ?_); refine goesL_ (some 2) rfl rfl Tryz.func69 (by kernel_rfl) rfl #[.agg #[.int .i64 1, .int .i64 2]] rfl sqA ?_; (with_reducible refine (impl_FractionOk.calls k 1 2 true _ A1.out).mono ?_); rintro e w4 ⟨rfl, hb⟩; refine ⟨_, rfl, ?_⟩; replace HB := sqS (sqB HB) hb; (try clear hb)) | (go_at_call 69; (with_reducible refine (impl_FractionOk.calls k 2 2 t122 _ A3.out).mono ?_); rintro e w5 ⟨rfl, hb⟩; replace HB := sqS (sqB HB) hb; (try clear hb)))
  go_ret
  exact ⟨Z15, sqB HB⟩
 ·replace c2 := Bool.eq_false_iff.mpr c2
  subst c2
  rw [if_neg sqF] at H
  obtain rfl := Option.some.inj H
  go_enter Tryz.func24, Tryz.ntmps24
  go_wp2_with (first | ((with_reducible refine gate_callee (f := 69) rfl ?_); refine goesL_ (some 2) rfl rfl Tryz.func69 (by kernel_rfl) rfl #[.agg #[.int .i64 1, .int .i64 2]] rfl sqA ?_; (with_reducible refine (impl_FractionOk.calls k 1 2 false _ A1.out).mono ?_); rintro e w6 ⟨rfl, hb⟩; refine ⟨_, rfl, ?_⟩; replace HB := sqS (sqB HB) hb; (try clear hb)))
  go_ret
  exact ⟨Z15, sqB HB⟩

/-- A state of type 131 at block g of W; what its slices lead to came in by w0. -/
def IsS131 (w0 W : World) (g : Nat) (f0 : List Int) (f1 : Int) : Prop := ∃ A0 c0, W.heap[g]? = some (.cells #[.slice A0 f0.length c0, .int .i64 f1] 131 (0, 0)) ∧ w0.heap.size ≤ g ∧ Kd.C (Kd.int .u8) w0 A0 f0.length f0
theorem IsS131.grown {w0 W : World} {g : Nat} {f0 : List Int} {f1 : Int} {W1 : World} {row : Option Nat} (h : IsS131 w0 W g f0 f1) (hw : W.grownBy W1 row) (hne : some g ≠ row) : IsS131 w0 W1 g f0 f1 := by
 obtain ⟨A0, c0, hb, hg, hr0⟩ := h
 exact ⟨A0, c0, blk_grown hb hw hne, hg, hr0⟩
theorem IsS131.own_neN {w0 W : World} {g : Nat} {f0 : List Int} {f1 : Int} {α : Type} {d : Kd α} {e : Nat} {base : Nat} {ok : Nat → Prop} {v : Value} {xs : List α} (h : IsS131 w0 W g f0 f1) (ho : Kd.N d e W base ok v xs) (ht : e ≠ 131) : some g ≠ v.ownBlock := by
 obtain ⟨A0, c0, hb, hg, hr0⟩ := h
 exact Kd.N_ne ho hb ht
theorem IsS131.fresh {w0 W : World} {g : Nat} {f0 : List Int} {f1 : Int} (h : IsS131 w0 W g f0 f1) : ∀ k, W.heap.size ≤ k → k ≠ g := by
 obtain ⟨A0, c0, hb, hg, hr0⟩ := h
 exact Kd.freshB hb
theorem IsS131.kept {w0 W : World} {g : Nat} {f0 : List Int} {f1 : Int} {W1 : World} {S : Nat → Prop} (h : IsS131 w0 W g f0 f1) (hk : Kept W W1 S) (hne : ¬ S g) : IsS131 w0 W1 g f0 f1 := by
 obtain ⟨A0, c0, hb, hg, hr0⟩ := h
 exact ⟨A0, c0, blk_kept hb hk hne, hg, hr0⟩
theorem IsS131.below {w0 W : World} {g : Nat} {f0 : List Int} {f1 : Int} {W1 : World} (h : IsS131 w0 W g f0 f1) (hw : Below W.heap.size W W1) : IsS131 w0 W1 g f0 f1 := h.grown (grown_of_below hw none) (by simp)
theorem IsS131.alloc {w0 W : World} {g : Nat} {f0 : List Int} {f1 : Int} (h : IsS131 w0 W g f0 f1) (o : Obj) : IsS131 w0 (W.alloc o) g f0 f1 := h.below (below_alloc (Below.refl _ _) o)
theorem IsS131.drewN {w0 W : World} {g : Nat} {f0 : List Int} {f1 : Int} (h : IsS131 w0 W g f0 f1) (m : Nat) : IsS131 w0 (W.drewN m) g f0 f1 := h
theorem IsS131.drew {w0 W : World} {g : Nat} {f0 : List Int} {f1 : Int} (h : IsS131 w0 W g f0 f1) : IsS131 w0 W.drew g f0 f1 := h
theorem IsS131.at_ {w0 W : World} {g : Nat} {f0 : List Int} {f1 : Int} {w' : World} {m : Nat} (hq : W.drewN m = w') (h : IsS131 w0 W g f0 f1) : IsS131 w0 w' g f0 f1 := by subst hq; exact IsS131.drewN h m
theorem IsS131.apart {w0 W : World} {g : Nat} {f0 : List Int} {f1 : Int} {α : Type} {d : Kd α} {e : Nat} {base : Nat} {ok : Nat → Prop} {v : Value} {xs : List α} (h : IsS131 w0 W g f0 f1) (ho : d.R e W base ok v xs) (ht : ∀ q, q ∈ e :: d.E → q ≠ 131) : d.R e W base (fun k => ok k ∧ k ≠ g) v xs := by
 obtain ⟨A0, c0, hb, hg, hr0⟩ := h
 exact Kd.R_types ho hb ht
theorem IsS131.own_ne {w0 W : World} {g : Nat} {f0 : List Int} {f1 : Int} {α : Type} {d : Kd α} {e : Nat} {base : Nat} {ok : Nat → Prop} {v : Value} {xs : List α} (h : IsS131 w0 W g f0 f1) (ho : d.R e W base ok v xs) (ht : e ≠ 131) : some g ≠ v.ownBlock := by
 obtain ⟨A0, c0, hb, hg, hr0⟩ := h
 exact Kd.R_ne ho hb ht
theorem IsS131.apartQ {w0 W : World} {g : Nat} {f0 : List Int} {f1 : Int} {α : Type} {d : Kd α} {e : Nat} {base : Nat} {ok : Nat → Prop} {v : Value} {xs : List α} (h : IsS131 w0 W g f0 f1) (ho : d.Q e W base ok v xs) (ht : ∀ q, q ∈ e :: d.E → q ≠ 131) : d.Q e W base (fun k => ok k ∧ k ≠ g) v xs := by
 obtain ⟨A0, c0, hb, hg, hr0⟩ := h
 exact Kd.Q_types ho hb ht
theorem IsS131.own_neQ {w0 W : World} {g : Nat} {f0 : List Int} {f1 : Int} {α : Type} {d : Kd α} {e : Nat} {base : Nat} {ok : Nat → Prop} {v : Value} {xs : List α} (h : IsS131 w0 W g f0 f1) (ho : d.Q e W base ok v xs) (ht : e ≠ 131) : some g ≠ v.ownBlock := by
 obtain ⟨A0, c0, hb, hg, hr0⟩ := h
 exact Kd.Q_ne ho hb ht
theorem IsS131.apartS {w0 W : World} {g : Nat} {f0 : List Int} {f1 : Int} {α : Type} {d : Kd α} {e : Nat} {base : Nat} {ok : Nat → Prop} {v : Value} {xs : List α} (h : IsS131 w0 W g f0 f1) (ho : d.S e W base ok v xs) (ht : ∀ q, q ∈ e :: d.E → q ≠ 131) : d.S e W base (fun k => ok k ∧ k ≠ g) v xs := by
 obtain ⟨A0, c0, hb, hg, hr0⟩ := h
 exact Kd.S_types ho hb ht
theorem IsS131.own_neS {w0 W : World} {g : Nat} {f0 : List Int} {f1 : Int} {α : Type} {d : Kd α} {e : Nat} {base : Nat} {ok : Nat → Prop} {v : Value} {xs : List α} (h : IsS131 w0 W g f0 f1) (ho : d.S e W base ok v xs) (ht : e ≠ 131) : some g ≠ v.ownBlock := by
 obtain ⟨A0, c0, hb, hg, hr0⟩ := h
 exact Kd.S_ne ho hb ht
theorem IsS131.lt {w0 W : World} {g : Nat} {f0 : List Int} {f1 : Int} (h : IsS131 w0 W g f0 f1) : g < W.heap.size := by
 obtain ⟨A0, c0, hb, hg, hr0⟩ := h
 exact blk_lt hb
theorem IsS131.ge {w0 W : World} {g : Nat} {f0 : List Int} {f1 : Int} (h : IsS131 w0 W g f0 f1) : w0.heap.size ≤ g := by
 obtain ⟨A0, c0, hb, hg, hr0⟩ := h
 exact hg
theorem IsS131.ne_blk {w0 W : World} {g : Nat} {f0 : List Int} {f1 : Int} {a : Nat} {cs : Array Value} {t : TypeId} {fr : Nat × Nat} (h : IsS131 w0 W g f0 f1) (hb2 : W.heap[a]? = some (.cells cs t fr)) (ht : t ≠ 131) : g ≠ a := by
 obtain ⟨A0, c0, hb, hg, hr0⟩ := h
 rintro rfl
 rw [hb] at hb2
 injection hb2 with hb2
 injection hb2 with _ ht2
 exact ht ht2.symm
theorem IsS131.far {w0 W : World} {g : Nat} {f0 : List Int} {f1 : Int} {p : Addr} (h : IsS131 w0 W g f0 f1) (hne : g ≠ p.block) (u : Value) : IsS131 w0 (W.setCell p u) g f0 f1 := by
 obtain ⟨A0, c0, hb, hg, hr0⟩ := h
 exact ⟨A0, c0, blk_far hb hne u, hg, hr0⟩
theorem cellS131_0 {W : World} {g : Nat} {A0 : Option Addr} {c0 : Nat} {f0 : List Int} {f1 : Int} (h : W.heap[g]? = some (.cells #[.slice A0 f0.length c0, .int .i64 f1] 131 (0, 0))) : W.cell? ⟨g, 0, none⟩ = some (.slice A0 f0.length c0) := (blk_cell h 0).trans rfl
theorem cellS131_1 {W : World} {g : Nat} {A0 : Option Addr} {c0 : Nat} {f0 : List Int} {f1 : Int} (h : W.heap[g]? = some (.cells #[.slice A0 f0.length c0, .int .i64 f1] 131 (0, 0))) : W.cell? ⟨g, 1, none⟩ = some (.int .i64 f1) := (blk_cell h 1).trans rfl
theorem IsS131.set_1 {w0 W : World} {g : Nat} {f0 : List Int} {f1 : Int} (h : IsS131 w0 W g f0 f1) (x : Int) : IsS131 w0 (W.setCell ⟨g, 1, none⟩ (.int .i64 x)) g f0 x := by
 obtain ⟨A0, c0, hb, hg, hr0⟩ := h
 exact ⟨A0, c0, by simpa using blk_set hb 1 (.int .i64 x), hg, hr0⟩
theorem IsS131.new (w0 W : World) (A0 : Option Addr) (c0 : Nat) (f0 : List Int) (f1 : Int) (hB : Below w0.heap.size w0 W) (hr0 : Kd.C (Kd.int .u8) w0 A0 f0.length f0) : IsS131 w0 (W.alloc (.cells #[.slice A0 f0.length c0, .int .i64 f1] 131)) W.heap.size f0 f1 := ⟨A0, c0, by simpa using heap_alloc_new W _, hB.size, hr0⟩

/-! ### spec_l20Open: function 66 -/
def spec_l20Open.f (l0 : List Int) : Option (List Int × Int) := if (l0.length : Int) > 2000 then (if 2000 ≤ (l0.length : Int) then (some (l0.take 2000, 0)) else (none)) else (some (l0, 0))
set_option maxHeartbeats 8000000 in
set_option maxRecDepth 100000 in
theorem spec_l20Open.calls (A0 : Option Addr) (c0 : Nat) (l0 : List Int) (r1 : List Int) (r2 : Int) (w0 w : World) (hB : Below w0.heap.size w0 w) (hr0 : Kd.C (Kd.int .u8) w0 A0 l0.length l0) (hc0 : l0.length ≤ c0) (h : spec_l20Open.f l0 = some (r1, r2)) :
  Calls Tryz.prog 66 #[.slice A0 l0.length c0] w fun e w' => ∃ g_ : Nat, e = .returned (.pointer (some ⟨g_, 0, none⟩)) ∧ IsS131 w0 w' g_ r1 r2 ∧ Below w0.heap.size w0 w' ∧ Below w.heap.size w w' := by
 have hu131 := Tryz.underlying131
 have HR0 := Aside0.mk hr0
 have HC0 := Aside0.mk hc0
 clear hr0 hc0
 have HBW := Aside0.mk (Below.refl w.heap.size w)
 have HW0 := Aside0.mk hB.size
 have HB := Aside0.mk hB
 clear hB
 have H : (if (l0.length : Int) > 2000 then (if 2000 ≤ (l0.length : Int) then (some (l0.take 2000, 0)) else (none)) else (some (l0, 0))) = some (r1, r2) := h
 clear h
 by_cases c2 : (l0.length : Int) > 2000
 ·rw [if_pos c2] at H
  have c2b0 : decide (2000 < (l0.length : Int)) = true := decide_eq_true c2
  have c2b1 : decide (2000 < l0.length) = true := decide_eq_true (by omega)
  clear c2
  obtain ⟨c3, H⟩ := sqI H
  have c3b0 := eq_true c3
  have c3b1 : decide (2000 ≤ (l0.length : Int)) = true := decide_eq_true c3
  clear c3
  simp only [Option.some.injEq, Prod.mk.injEq] at H
  obtain ⟨rfl, rfl⟩ := H
  obtain ⟨i04, hi04, _, hsz4, _⟩ := info_parts info5
  obtain ⟨hcut4, hA4, hC4⟩ := print_take_of (P := Tryz.prog) (Value.int .u8) 0 43 5 .i64 Tryz.underlying43 hi04 hsz4 A0 c0 l0 2000 (by omega) (of_decide_eq_true Z7) HC0.out
  have HR123 := Aside0.mk (Kd.C_of_reads (h1 := fun _ => rfl) (hA4 _ (Kd.reads_of_C HR0.out)))
  have HC123 := Aside0.mk hC4
  clear hA4 hC4 hi04 hsz4
  go_enter Tryz.func66, Tryz.ntmps66
  go_wp2_with (first | ((with_reducible refine gate_dst (N := 10) rfl ?_); refine sqBox (N := 10) (cs := #[.slice A0 (l0.take 2000).length c0, .int .i64 0]) (t := 131) ?_; intro gb124 hg w5 BK124 hb; replace HB := sqS (sqB HB) hb; have GW124 := Aside0.mk ((sqG hg (sqB HBW))); have GE124 := Aside0.mk ((Nat.le_trans HW0.out (sqG hg (sqB HBW)) : w0.heap.size ≤ gb124)); replace HBW := Aside0.mk (below_step HBW.out hb); clear hb hg))
  go_ret
  exact ⟨_, rfl, (show IsS131 w0 _ gb124 (l0.take 2000) 0 from ⟨_, _, by exact sqK BK124, GE124.out, HR123.out⟩), sqB1 HB GE124, sqB1 HBW GW124⟩
 ·rw [if_neg c2] at H
  have c2b0 : decide (2000 < (l0.length : Int)) = false := decide_eq_false c2
  have c2b1 : decide (2000 < l0.length) = false := decide_eq_false (by omega)
  clear c2
  simp only [Option.some.injEq, Prod.mk.injEq] at H
  obtain ⟨rfl, rfl⟩ := H
  go_enter Tryz.func66, Tryz.ntmps66
  go_wp2_with (first | ((with_reducible refine gate_dst (N := 10) rfl ?_); refine sqBox (N := 10) (cs := #[.slice A0 l0.length c0, .int .i64 0]) (t := 131) ?_; intro gb125 hg w6 BK125 hb; replace HB := sqS (sqB HB) hb; have GW125 := Aside0.mk ((sqG hg (sqB HBW))); have GE125 := Aside0.mk ((Nat.le_trans HW0.out (sqG hg (sqB HBW)) : w0.heap.size ≤ gb125)); replace HBW := Aside0.mk (below_step HBW.out hb); clear hb hg))
  go_ret
  exact ⟨_, rfl, (show IsS131 w0 _ gb125 l0 0 from ⟨_, _, by exact sqK BK125, GE125.out, HR0.out⟩), sqB1 HB GE125, sqB1 HBW GW125⟩

/-! ### spec_l1In: function 101 -/
def spec_l1In.f (a0 : Int) (a1 : Int) (a2 : Int) : Option (Bool) := if a0 ≥ a1 then (some (decide (a0 ≤ a2))) else (some false)
set_option maxHeartbeats 8000000 in
set_option maxRecDepth 100000 in
theorem spec_l1In.calls (a0 : Int) (a1 : Int) (a2 : Int) (r : Bool) (w : World) (h : spec_l1In.f a0 a1 a2 = some r) :
  Calls Tryz.prog 101 #[.int .i64 a0, .int .i64 a1, .int .i64 a2] w fun e w' => e = .returned (.bool r) ∧ Drawn0 w w' := by
 have H : (if a0 ≥ a1 then (some (decide (a0 ≤ a2))) else (some false)) = some r := h
 clear h
 by_cases c4 : a0 ≥ a1
 ·rw [if_pos c4] at H
  have c4b0 : decide (a1 ≤ a0) = true := decide_eq_true c4
  clear c4
  obtain rfl := Option.some.inj H
  go_enter Tryz.func101, Tryz.ntmps101
  go_wp2
  go_ret
  exact ⟨Z2, Z55⟩
 ·rw [if_neg c4] at H
  have c4b0 : decide (a1 ≤ a0) = false := decide_eq_false c4
  clear c4
  obtain rfl := Option.some.inj H
  go_enter Tryz.func101, Tryz.ntmps101
  go_wp2
  go_ret
  exact ⟨Z2, Z55⟩

/-! ### spec_l1Common: function 121 -/
def spec_l1Common.l0 : Nat → Int → Int → Option (Int)
 | 0, _, _ => none
 | k + 1, x0, x1 => if x1 > 0 then (if x1 = 0 then (none) else (spec_l1Common.l0 k x1 (Int.tmod x0 x1))) else (some x0)
def spec_l1Common.f (k : Nat) (a0 : Int) (a1 : Int) : Option (Int) := spec_l1Common.l0 k (mx a0 (wrap64 (-a0))) (mx a1 (wrap64 (-a1)))
theorem spec_l1Common.mono_l : ∀ k, (∀ y0 y1, LeO (spec_l1Common.l0 k y0 y1) (spec_l1Common.l0 (k + 1) y0 y1))
 | 0 => fun _ _ r h => by simp [spec_l1Common.l0] at h
 | k + 1 => by
  have ih0 := spec_l1Common.mono_l k
  ·intro y0 y1
   unfold spec_l1Common.l0
   repeat' first
   | (with_reducible exact ih0 _ _)
   | (with_reducible exact LeO.refl _)
   | (with_reducible exact LeO.none _)
   | (with_reducible refine LeO.ite ?_ ?_)
   | (with_reducible refine LeO.bind ?_ (fun _ => ?_))
theorem spec_l1Common.mono : ∀ a0 a1 k, LeO (spec_l1Common.f k a0 a1) (spec_l1Common.f (k + 1) a0 a1) := by
 intro a0 a1 k
 have ih0 := spec_l1Common.mono_l k
 unfold spec_l1Common.f
 repeat' first
   | (with_reducible exact ih0 _ _)
   | (with_reducible exact LeO.refl _)
   | (with_reducible exact LeO.none _)
   | (with_reducible refine LeO.ite ?_ ?_)
   | (with_reducible refine LeO.bind ?_ (fun _ => ?_))
set_option maxHeartbeats 8000000 in
set_option maxRecDepth 100000 in
theorem spec_l1Common.calls (k : Nat) (a0 : Int) (a1 : Int) (r : Int) (w : World) (h : spec_l1Common.f k a0 a1 = some r) :
  Calls Tryz.prog 121 #[.int .i64 a0, .int .i64 a1] w fun e w' => e = .returned (.int .i64 r) ∧ Below w.heap.size w w' := by
 have HB := Aside0.mk (Below.refl w.heap.size w)
 have H : (spec_l1Common.l0 k (mx a0 (wrap64 (-a0))) (mx a1 (wrap64 (-a1)))) = some r := h
 clear h
 obtain ⟨ji3, hji3⟩ : ∃ j_ : Int, (mx a0 (wrap64 (-a0))) = j_ := ⟨_, rfl⟩
 replace H : (spec_l1Common.l0 k ji3 (mx a1 (wrap64 (-a1)))) = some r := by first | (rw [hji3] at H; exact H) | (simp only [hji3] at H ⊢; exact H)
 have hji3_ : (if a0 < (wrap64 (-a0)) then (wrap64 (-a0)) else a0) = ji3 := hji3
 obtain ⟨ji4, hji4⟩ : ∃ j_ : Int, (mx a1 (wrap64 (-a1))) = j_ := ⟨_, rfl⟩
 replace H : (spec_l1Common.l0 k ji3 ji4) = some r := by first | (rw [hji4] at H; exact H) | (simp only [hji4] at H ⊢; exact H)
 have hji4_ : (if a1 < (wrap64 (-a1)) then (wrap64 (-a1)) else a1) = ji4 := hji4
 have H' := Aside0.mk H
 clear H
 go_enter Tryz.func121, Tryz.ntmps121
 go_wp2
 go_loopg [0, 1] k (fun kq v0 v1 w' => ∃ (x0_1 : Int) (x1_1 : Int), v0 = .int .i64 x0_1 ∧ v1 = .int .i64 x1_1 ∧ Aside0 (spec_l1Common.l0 kq x0_1 x1_1 = some r) ∧ Aside0 (kq ≤ k) ∧ Aside0 (Below w.heap.size w w'))
 case atStart => exact ⟨(ji3), (ji4), (by first | rfl | (simp; done) | (simp only [← hji3] <;> (first | rfl | simp)) | (simp [*]; done)), (by first | rfl | (simp; done) | (simp only [← hji4] <;> (first | rfl | simp)) | (simp [*]; done)), H', ⟨Nat.le_refl _⟩, ⟨sqB HB⟩⟩
 case round =>
  clear H'
  try clear c1; try clear p2
  obtain ⟨x0_1, x1_1, rfl, rfl, HA, HK1, HB⟩ := hrel
  cases gk with
  | zero => exact absurd HA.out (by simp [spec_l1Common.l0])
  | succ k1 =>
   have H := HA.out
   clear HA
   simp only [spec_l1Common.l0] at H
   by_cases c5 : x1_1 > 0
   ·rw [if_pos c5] at H
    have c5b0 : decide (0 < x1_1) = true := decide_eq_true c5
    clear c5
    by_cases c6 : x1_1 = 0
    ·rw [if_pos c6] at H
     exact absurd H (by simp)
    ·rw [if_neg c6] at H
     have c6b0 : (x1_1 == 0) = false := beq_eq_false_iff_ne.mpr c6
     have c6b1 : (x1_1 != 0) = true := bne_iff_ne.mpr c6
     have H' := Aside0.mk H
     clear H
     go_wp2
     go_roundg k1
     case measure => have := HK1.out; omega
     case rel => exact ⟨(x1_1), (Int.tmod x0_1 x1_1), Z2, Z2, H', ⟨Z16 HK1⟩, ⟨sqB HB⟩⟩
   ·rw [if_neg c5] at H
    have c5b0 : decide (0 < x1_1) = false := decide_eq_false c5
    clear c5
    obtain rfl := Option.some.inj H
    go_wp2
    go_ret
    exact ⟨by first | rfl | (simp [errP_none, errP_some] <;> rfl) | (simp only [← hji3, ← hji4]; first | rfl | (simp [errP_none, errP_some] <;> rfl)) | (simp [*, errP_none, errP_some] <;> rfl), sqB HB⟩

/-! ### spec_FractionOk: function 77 -/
def spec_FractionOk.f (k : Nat) (a0_0 : Int) (a0_1 : Int) : Option (Bool) := (spec_l1In.f a0_0 (-1000000) 1000000).bind fun t127 => (if t127 = true then ((spec_l1In.f a0_1 0 1000000).bind fun t128 => (if t128 = true then ((spec_l1Common.f k a0_0 a0_1).bind fun t129 => (if t129 = 1 then (if a0_1 > 0 then (some true) else (some (a0_0 == 1))) else (some false))) else (some false))) else (some false))
theorem spec_FractionOk.mono : ∀ a0 a1 k, LeO (spec_FractionOk.f k a0 a1) (spec_FractionOk.f (k + 1) a0 a1) := by
 intro a0 a1 k
 unfold spec_FractionOk.f
 repeat' first
   | (with_reducible exact spec_l1Common.mono _ _ _)
   | (with_reducible exact LeO.refl _)
   | (with_reducible exact LeO.none _)
   | (with_reducible refine LeO.ite ?_ ?_)
   | (with_reducible refine LeO.bind ?_ (fun _ => ?_))
set_option maxHeartbeats 8000000 in
set_option maxRecDepth 100000 in
theorem spec_FractionOk.calls (k : Nat) (a0_0 : Int) (a0_1 : Int) (r : Bool) (w : World) (h : spec_FractionOk.f k a0_0 a0_1 = some r) :
  Calls Tryz.prog 77 #[.agg #[.int .i64 a0_0, .int .i64 a0_1]] w fun e w' => e = .returned (.bool r) ∧ Below w.heap.size w w' := by
 have hu31 := Tryz.underlying31
 have HB := Aside0.mk (Below.refl w.heap.size w)
 have H : ((spec_l1In.f a0_0 (-1000000) 1000000).bind fun t127 => (if t127 = true then ((spec_l1In.f a0_1 0 1000000).bind fun t128 => (if t128 = true then ((spec_l1Common.f k a0_0 a0_1).bind fun t129 => (if t129 = 1 then (if a0_1 > 0 then (some true) else (some (a0_0 == 1))) else (some false))) else (some false))) else (some false))) = some r := h
 clear h
 obtain ⟨t127, A2, H⟩ := sqD H
 by_cases c3 : t127 = true
 ·subst c3
  rw [if_pos rfl] at H
  obtain ⟨t128, A4, H⟩ := sqD H
  by_cases c5 : t128 = true
  ·subst c5
   rw [if_pos rfl] at H
   obtain ⟨t129, A6, H⟩ := sqD H
   by_cases c7 : t129 = 1
   ·rw [if_pos c7] at H
    have c7b0 : (t129 == 1) = true := beq_iff_eq.mpr c7
    have c7b1 : (t129 != 1) = false := bne_eq_false_iff_eq.mpr c7
    clear c7
    by_cases c8 : a0_1 > 0
    ·rw [if_pos c8] at H
     have c8b0 : decide (0 < a0_1) = true := decide_eq_true c8
     clear c8
     obtain rfl := Option.some.inj H
     go_enter Tryz.func77, Tryz.ntmps77
     go_wp2_with (first | ((with_reducible refine gate_dst (N := 1) rfl ?_); refine sqBox (N := 1) (cs := #[.int .i64 a0_0, .int .i64 a0_1]) (t := 31) ?_; intro gb126 hg w9 BK126 hb; have GW126 := Aside0.mk ((sqG hg (sqB HB))); have GE126 := GW126; replace HB := sqS (sqB HB) hb; clear hb hg; obtain ⟨hcz10_0, hcz10_1, hfz10_0, hfz10_1⟩ := sqY2 BK126) | ((with_reducible refine gate_callee (f := 101) rfl ?_); refine goesL_ (some 5) rfl rfl Tryz.func101 (by kernel_rfl) rfl #[.int .i64 a0_0, .int .i64 (-1000000), .int .i64 1000000] rfl sqA ?_; (with_reducible refine (spec_l1In.calls a0_0 (-1000000) 1000000 true _ A2.out).mono ?_); rintro e w' ⟨rfl, ⟨nd, rfl⟩⟩; refine ⟨_, rfl, ?_⟩) | (go_at_call 101; (with_reducible refine (spec_l1In.calls a0_1 0 1000000 true _ A4.out).mono ?_); rintro e w' ⟨rfl, ⟨nd, rfl⟩⟩) | ((with_reducible refine gate_callee (f := 121) rfl ?_); refine goesL_ (some 17) rfl rfl Tryz.func121 (by kernel_rfl) rfl #[.int .i64 a0_0, .int .i64 a0_1] rfl sqA ?_; (with_reducible refine (spec_l1Common.calls k a0_0 a0_1 t129 _ A6.out).mono ?_); rintro e w11 ⟨rfl, hb⟩; refine ⟨_, rfl, ?_⟩; replace BK126 := sqT BK126 hb; replace HB := sqS (sqB1 HB GE126) hb; (try clear hb); obtain ⟨hcz12_0, hcz12_1, hfz12_0, hfz12_1⟩ := sqY2 BK126))
     go_ret
     exact ⟨Z15, sqB1 HB GE126⟩
    ·rw [if_neg c8] at H
     have c8b0 : decide (0 < a0_1) = false := decide_eq_false c8
     clear c8
     obtain rfl := Option.some.inj H
     go_enter Tryz.func77, Tryz.ntmps77
     go_wp2_with (first | ((with_reducible refine gate_dst (N := 1) rfl ?_); refine sqBox (N := 1) (cs := #[.int .i64 a0_0, .int .i64 a0_1]) (t := 31) ?_; intro gb126 hg w13 BK126 hb; have GW126 := Aside0.mk ((sqG hg (sqB HB))); have GE126 := GW126; replace HB := sqS (sqB HB) hb; clear hb hg; obtain ⟨hcz14_0, hcz14_1, hfz14_0, hfz14_1⟩ := sqY2 BK126) | ((with_reducible refine gate_callee (f := 101) rfl ?_); refine goesL_ (some 5) rfl rfl Tryz.func101 (by kernel_rfl) rfl #[.int .i64 a0_0, .int .i64 (-1000000), .int .i64 1000000] rfl sqA ?_; (with_reducible refine (spec_l1In.calls a0_0 (-1000000) 1000000 true _ A2.out).mono ?_); rintro e w' ⟨rfl, ⟨nd, rfl⟩⟩; refine ⟨_, rfl, ?_⟩) | (go_at_call 101; (with_reducible refine (spec_l1In.calls a0_1 0 1000000 true _ A4.out).mono ?_); rintro e w' ⟨rfl, ⟨nd, rfl⟩⟩) | ((with_reducible refine gate_callee (f := 121) rfl ?_); refine goesL_ (some 17) rfl rfl Tryz.func121 (by kernel_rfl) rfl #[.int .i64 a0_0, .int .i64 a0_1] rfl sqA ?_; (with_reducible refine (spec_l1Common.calls k a0_0 a0_1 t129 _ A6.out).mono ?_); rintro e w15 ⟨rfl, hb⟩; refine ⟨_, rfl, ?_⟩; replace BK126 := sqT BK126 hb; replace HB := sqS (sqB1 HB GE126) hb; (try clear hb); obtain ⟨hcz16_0, hcz16_1, hfz16_0, hfz16_1⟩ := sqY2 BK126))
     go_ret
     exact ⟨Z15, sqB1 HB GE126⟩
   ·rw [if_neg c7] at H
    have c7b0 : (t129 == 1) = false := beq_eq_false_iff_ne.mpr c7
    have c7b1 : (t129 != 1) = true := bne_iff_ne.mpr c7
    obtain rfl := Option.some.inj H
    go_enter Tryz.func77, Tryz.ntmps77
    go_wp2_with (first | ((with_reducible refine gate_dst (N := 1) rfl ?_); refine sqBox (N := 1) (cs := #[.int .i64 a0_0, .int .i64 a0_1]) (t := 31) ?_; intro gb126 hg w17 BK126 hb; have GW126 := Aside0.mk ((sqG hg (sqB HB))); have GE126 := GW126; replace HB := sqS (sqB HB) hb; clear hb hg; obtain ⟨hcz18_0, hcz18_1, hfz18_0, hfz18_1⟩ := sqY2 BK126) | ((with_reducible refine gate_callee (f := 101) rfl ?_); refine goesL_ (some 5) rfl rfl Tryz.func101 (by kernel_rfl) rfl #[.int .i64 a0_0, .int .i64 (-1000000), .int .i64 1000000] rfl sqA ?_; (with_reducible refine (spec_l1In.calls a0_0 (-1000000) 1000000 true _ A2.out).mono ?_); rintro e w' ⟨rfl, ⟨nd, rfl⟩⟩; refine ⟨_, rfl, ?_⟩) | (go_at_call 101; (with_reducible refine (spec_l1In.calls a0_1 0 1000000 true _ A4.out).mono ?_); rintro e w' ⟨rfl, ⟨nd, rfl⟩⟩) | ((with_reducible refine gate_callee (f := 121) rfl ?_); refine goesL_ (some 17) rfl rfl Tryz.func121 (by kernel_rfl) rfl #[.int .i64 a0_0, .int .i64 a0_1] rfl sqA ?_; (with_reducible refine (spec_l1Common.calls k a0_0 a0_1 t129 _ A6.out).mono ?_); rintro e w19 ⟨rfl, hb⟩; refine ⟨_, rfl, ?_⟩; replace BK126 := sqT BK126 hb; replace HB := sqS (sqB1 HB GE126) hb; (try clear hb)))
    go_ret
    exact ⟨Z15, sqB1 HB GE126⟩
  ·replace c5 := Bool.eq_false_iff.mpr c5
   subst c5
   rw [if_neg sqF] at H
   obtain rfl := Option.some.inj H
   go_enter Tryz.func77, Tryz.ntmps77
   go_wp2_with (first | ((with_reducible refine gate_dst (N := 1) rfl ?_); refine sqBox (N := 1) (cs := #[.int .i64 a0_0, .int .i64 a0_1]) (t := 31) ?_; intro gb126 hg w20 BK126 hb; have GW126 := Aside0.mk ((sqG hg (sqB HB))); have GE126 := GW126; replace HB := sqS (sqB HB) hb; clear hb hg; obtain ⟨hcz21_0, hcz21_1, hfz21_0, hfz21_1⟩ := sqY2 BK126) | ((with_reducible refine gate_callee (f := 101) rfl ?_); refine goesL_ (some 5) rfl rfl Tryz.func101 (by kernel_rfl) rfl #[.int .i64 a0_0, .int .i64 (-1000000), .int .i64 1000000] rfl sqA ?_; (with_reducible refine (spec_l1In.calls a0_0 (-1000000) 1000000 true _ A2.out).mono ?_); rintro e w' ⟨rfl, ⟨nd, rfl⟩⟩; refine ⟨_, rfl, ?_⟩) | (go_at_call 101; (with_reducible refine (spec_l1In.calls a0_1 0 1000000 false _ A4.out).mono ?_); rintro e w' ⟨rfl, ⟨nd, rfl⟩⟩))
   go_ret
   exact ⟨Z15, sqB1 HB GE126⟩
 ·replace c3 := Bool.eq_false_iff.mpr c3
  subst c3
  rw [if_neg sqF] at H
  obtain rfl := Option.some.inj H
  go_enter Tryz.func77, Tryz.ntmps77
  go_wp2_with (first | ((with_reducible refine gate_dst (N := 1) rfl ?_); refine sqBox (N := 1) (cs := #[.int .i64 a0_0, .int .i64 a0_1]) (t := 31) ?_; intro gb126 hg w22 BK126 hb; have GW126 := Aside0.mk ((sqG hg (sqB HB))); have GE126 := GW126; replace HB := sqS (sqB HB) hb; clear hb hg; obtain ⟨hcz23_0, hcz23_1, hfz23_0, hfz23_1⟩ := sqY2 BK126) | ((with_reducible refine gate_callee (f := 101) rfl ?_); refine goesL_ (some 5) rfl rfl Tryz.func101 (by kernel_rfl) rfl #[.int .i64 a0_0, .int .i64 (-1000000), .int .i64 1000000] rfl sqA ?_; (with_reducible refine (spec_l1In.calls a0_0 (-1000000) 1000000 false _ A2.out).mono ?_); rintro e w' ⟨rfl, ⟨nd, rfl⟩⟩; refine ⟨_, rfl, ?_⟩))
  go_ret
  exact ⟨Z15, sqB1 HB GE126⟩

/-! ### spec_DeskOk: function 30 -/
def spec_DeskOk.l0 : Nat → Int → Int → Int → List (S31) → Option (Bool)
 | 0, _, _, _, _ => none
 | k + 1, x3, x131000, x131001, x131002 => if x3 < (x131002.length : Int) then (if 0 ≤ x3 then ((spec_FractionOk.f k ((rd_T31 x131002 x3).f0) ((rd_T31 x131002 x3).f1)).bind fun t132 => (if t132 = true then (spec_DeskOk.l0 k (wrap64 (x3 + 1)) x131000 x131001 x131002) else (some false))) else (none)) else ((spec_FractionOk.f k x131000 x131001).bind fun t133 => (if t133 = true then (some (decide ((x131002.length : Int) ≤ 8))) else (some false)))
def spec_DeskOk.f (k : Nat) (a0_0 : Int) (a0_1 : Int) (l0_2 : List (S31)) : Option (Bool) := spec_DeskOk.l0 k 0 a0_0 a0_1 l0_2
theorem spec_DeskOk.mono_l : ∀ k, (∀ y0 y1 y2 y3, LeO (spec_DeskOk.l0 k y0 y1 y2 y3) (spec_DeskOk.l0 (k + 1) y0 y1 y2 y3))
 | 0 => fun _ _ _ _ r h => by simp [spec_DeskOk.l0] at h
 | k + 1 => by
  have ih0 := spec_DeskOk.mono_l k
  ·intro y0 y1 y2 y3
   unfold spec_DeskOk.l0
   repeat' first
   | (with_reducible exact ih0 _ _ _ _)
   | (with_reducible exact spec_FractionOk.mono _ _ _)
   | (with_reducible exact LeO.refl _)
   | (with_reducible exact LeO.none _)
   | (with_reducible refine LeO.ite ?_ ?_)
   | (with_reducible refine LeO.bind ?_ (fun _ => ?_))
theorem spec_DeskOk.mono : ∀ a0 a1 a2 k, LeO (spec_DeskOk.f k a0 a1 a2) (spec_DeskOk.f (k + 1) a0 a1 a2) := by
 intro a0 a1 a2 k
 have ih0 := spec_DeskOk.mono_l k
 unfold spec_DeskOk.f
 repeat' first
   | (with_reducible exact ih0 _ _ _ _)
   | (with_reducible exact spec_FractionOk.mono _ _ _)
   | (with_reducible exact LeO.refl _)
   | (with_reducible exact LeO.none _)
   | (with_reducible refine LeO.ite ?_ ?_)
   | (with_reducible refine LeO.bind ?_ (fun _ => ?_))
set_option maxHeartbeats 8000000 in
set_option maxRecDepth 100000 in
theorem spec_DeskOk.calls (k : Nat) (a0_0 : Int) (a0_1 : Int) (A0_2 : Option Addr) (c0_2 : Nat) (l0_2 : List (S31)) (r : Bool) (w : World) (hr0_2 : Kd.C k31 w A0_2 l0_2.length l0_2) (hc0_2 : l0_2.length ≤ c0_2) (h : spec_DeskOk.f k a0_0 a0_1 l0_2 = some r) :
  Calls Tryz.prog 30 #[.agg #[.int .i64 a0_0, .int .i64 a0_1, .slice A0_2 l0_2.length c0_2]] w fun e w' => e = .returned (.bool r) ∧ Below w.heap.size w w' := by
 have hu34 := Tryz.underlying34
 have hu31 := Tryz.underlying31
 have HR0_2 := Aside0.mk hr0_2
 have HC0_2 := Aside0.mk hc0_2
 clear hr0_2 hc0_2
 have HB := Aside0.mk (Below.refl w.heap.size w)
 have H : (spec_DeskOk.l0 k 0 a0_0 a0_1 l0_2) = some r := h
 clear h
 have H' := Aside0.mk H
 clear H
 go_enter Tryz.func30, Tryz.ntmps30
 go_wp2_with (first | ((with_reducible refine gate_dst (N := 1) rfl ?_); (try (refine gate_guard (by rfl) ?_; dsimp only)); refine sqBox (N := 1) (cs := #[.int .i64 a0_0, .int .i64 a0_1, .slice A0_2 l0_2.length c0_2]) (t := 34) ?_; intro gb130 hg w2 BK130 hb; have GW130 := Aside0.mk ((sqG hg (sqB HB))); have GE130 := GW130; replace HB := sqS (sqB HB) hb; clear hb hg))
 go_loopg [3] k (fun kq v3 w' => ∃ (x3_1 : Int), v3 = .int .i64 x3_1 ∧ Aside0 (spec_DeskOk.l0 kq x3_1 a0_0 a0_1 l0_2 = some r) ∧ Aside0 (kq ≤ k) ∧ Aside0 (w'.heap[gb130]? = some (.cells #[.int .i64 a0_0, .int .i64 a0_1, (.slice A0_2 l0_2.length c0_2)] 34 (0, 0))) ∧ Aside0 (Below w.heap.size w w'))
 case atStart => exact ⟨(0), Z2, H', ⟨Nat.le_refl _⟩, ⟨sqK BK130⟩, ⟨sqB1 HB GE130⟩⟩
 case round =>
  clear H'
  try clear p2
  obtain ⟨x3_1, rfl, HA, HK1, BK130, HB⟩ := hrel
  cases gk with
  | zero => exact absurd HA.out (by simp [spec_DeskOk.l0])
  | succ k1 =>
   have H := HA.out
   clear HA
   simp only [spec_DeskOk.l0] at H
   by_cases c3 : x3_1 < (l0_2.length : Int)
   ·rw [if_pos c3] at H
    have c3b0 : decide (x3_1 < (l0_2.length : Int)) = true := decide_eq_true c3
    clear c3
    obtain ⟨c4, H⟩ := sqI H
    have c4b0 : decide (0 ≤ x3_1) = true := decide_eq_true c4
    clear c4
    obtain ⟨t132, A5, H⟩ := sqD H
    by_cases c6 : t132 = true
    ·subst c6
     rw [if_pos rfl] at H
     have H' := Aside0.mk H
     clear H
     obtain ⟨hcz7_0, hcz7_1, hcz7_2, hfz7_0, hfz7_1, hfz7_2⟩ := sqY3 BK130
     have p131 : 0 ≤ (x3_1 : Int) := of_decide_eq_true Z7
     have q131 : x3_1 < (l0_2.length : Int) := of_decide_eq_true Z7
     obtain ⟨ad131, e131, hx131_0, hx131_1⟩ := at_T31 HR0_2.out x3_1 p131 q131
     cases e131
     replace hx131_0 := (HB.out.cell (World.block_lt_of_cell? w _ hx131_0)).trans hx131_0
     replace hx131_1 := (HB.out.cell (World.block_lt_of_cell? w _ hx131_1)).trans hx131_1
     replace p131 := eq_true p131
     replace q131 := eq_true q131
     go_wp2_with (first | ((with_reducible refine gate_callee (f := 77) rfl ?_); refine goesL_ (some 16) rfl rfl Tryz.func77 (by kernel_rfl) rfl #[.agg #[.int .i64 ((rd_T31 l0_2 x3_1).f0), .int .i64 ((rd_T31 l0_2 x3_1).f1)]] rfl sqA ?_; (with_reducible refine (spec_FractionOk.calls k1 ((rd_T31 l0_2 x3_1).f0) ((rd_T31 l0_2 x3_1).f1) true _ A5.out).mono ?_); rintro e w8 ⟨rfl, hb⟩; refine ⟨_, rfl, ?_⟩; replace BK130 := sqT BK130 hb; replace HB := sqS (sqB1 HB GE130) hb; (try clear hb)))
     go_roundg k1
     case measure => have := HK1.out; omega
     case rel => exact ⟨(wrap64 (x3_1 + 1)), Z2, H', ⟨Z16 HK1⟩, ⟨sqK BK130⟩, ⟨sqB1 HB GE130⟩⟩
    ·replace c6 := Bool.eq_false_iff.mpr c6
     subst c6
     rw [if_neg sqF] at H
     obtain rfl := Option.some.inj H
     obtain ⟨hcz9_0, hcz9_1, hcz9_2, hfz9_0, hfz9_1, hfz9_2⟩ := sqY3 BK130
     have p131 : 0 ≤ (x3_1 : Int) := of_decide_eq_true Z7
     have q131 : x3_1 < (l0_2.length : Int) := of_decide_eq_true Z7
     obtain ⟨ad131, e131, hx131_0, hx131_1⟩ := at_T31 HR0_2.out x3_1 p131 q131
     cases e131
     replace hx131_0 := (HB.out.cell (World.block_lt_of_cell? w _ hx131_0)).trans hx131_0
     replace hx131_1 := (HB.out.cell (World.block_lt_of_cell? w _ hx131_1)).trans hx131_1
     replace p131 := eq_true p131
     replace q131 := eq_true q131
     go_wp2_with (first | ((with_reducible refine gate_callee (f := 77) rfl ?_); refine goesL_ (some 16) rfl rfl Tryz.func77 (by kernel_rfl) rfl #[.agg #[.int .i64 ((rd_T31 l0_2 x3_1).f0), .int .i64 ((rd_T31 l0_2 x3_1).f1)]] rfl sqA ?_; (with_reducible refine (spec_FractionOk.calls k1 ((rd_T31 l0_2 x3_1).f0) ((rd_T31 l0_2 x3_1).f1) false _ A5.out).mono ?_); rintro e w10 ⟨rfl, hb⟩; refine ⟨_, rfl, ?_⟩; replace BK130 := sqT BK130 hb; replace HB := sqS (sqB1 HB GE130) hb; (try clear hb)))
     go_ret
     exact ⟨Z15, sqB1 HB GE130⟩
   ·rw [if_neg c3] at H
    have c3b0 : decide (x3_1 < (l0_2.length : Int)) = false := decide_eq_false c3
    clear c3
    obtain ⟨t133, A11, H⟩ := sqD H
    by_cases c12 : t133 = true
    ·subst c12
     rw [if_pos rfl] at H
     obtain rfl := Option.some.inj H
     obtain ⟨hcz13_0, hcz13_1, hcz13_2, hfz13_0, hfz13_1, hfz13_2⟩ := sqY3 BK130
     go_wp2_with (first | ((with_reducible refine gate_callee (f := 77) rfl ?_); refine goesL_ (some 20) rfl rfl Tryz.func77 (by kernel_rfl) rfl #[.agg #[.int .i64 a0_0, .int .i64 a0_1]] rfl sqA ?_; (with_reducible refine (spec_FractionOk.calls k1 a0_0 a0_1 true _ A11.out).mono ?_); rintro e w14 ⟨rfl, hb⟩; refine ⟨_, rfl, ?_⟩; replace BK130 := sqT BK130 hb; replace HB := sqS (sqB1 HB GE130) hb; (try clear hb); obtain ⟨hcz15_0, hcz15_1, hcz15_2, hfz15_0, hfz15_1, hfz15_2⟩ := sqY3 BK130))
     go_ret
     exact ⟨Z15, sqB1 HB GE130⟩
    ·replace c12 := Bool.eq_false_iff.mpr c12
     subst c12
     rw [if_neg sqF] at H
     obtain rfl := Option.some.inj H
     obtain ⟨hcz16_0, hcz16_1, hcz16_2, hfz16_0, hfz16_1, hfz16_2⟩ := sqY3 BK130
     go_wp2_with (first | ((with_reducible refine gate_callee (f := 77) rfl ?_); refine goesL_ (some 20) rfl rfl Tryz.func77 (by kernel_rfl) rfl #[.agg #[.int .i64 a0_0, .int .i64 a0_1]] rfl sqA ?_; (with_reducible refine (spec_FractionOk.calls k1 a0_0 a0_1 false _ A11.out).mono ?_); rintro e w17 ⟨rfl, hb⟩; refine ⟨_, rfl, ?_⟩; replace BK130 := sqT BK130 hb; replace HB := sqS (sqB1 HB GE130) hb; (try clear hb)))
     go_ret
     exact ⟨Z15, sqB1 HB GE130⟩

/-! ### spec_l11Copy: function 56 -/
def spec_l11Copy.f (a0_0 : Int) (a0_1 : Int) (l0_2 : List (S31)) : Option (Int × Int × (List (S31))) := (some (([] : List (S31)) : List (S31))).bind fun y136 => (if y136.length + l0_2.length < 8796093022208 then (some (a0_0, a0_1, (y136 ++ l0_2))) else (none))
def spec_l11Copy.T1 : Bool × List (List Nat × List Nat) := (true, [([], []), ([0], [0]), ([], []), ([], []), ([3], [3]), ([2, 4], [2, 4]), ([1, 5], [1, 5]), ([6, 5, 0, 1, 2, 3, 4, 5, 6], [6])])
def spec_l11Copy.B1 : List Nat := [0, 1, 0, 0, 8, 28, 63, 127]
theorem spec_l11Copy.tab1 : rtab .any (opsOf Tryz.f56 1) = spec_l11Copy.T1 := by kernel_rfl
theorem spec_l11Copy.bits1 : waitsOk spec_l11Copy.T1.2 spec_l11Copy.B1 = true := by kernel_rfl
set_option maxHeartbeats 8000000 in
set_option maxRecDepth 100000 in
theorem spec_l11Copy.calls (a0_0 : Int) (a0_1 : Int) (A0_2 : Option Addr) (c0_2 : Nat) (l0_2 : List (S31)) (r1 : Int) (r2 : Int) (r3 : List (S31)) (w : World) (hr0_2 : Kd.C k31 w A0_2 l0_2.length l0_2) (hc0_2 : l0_2.length ≤ c0_2) (h : spec_l11Copy.f a0_0 a0_1 l0_2 = some (r1, r2, r3)) :
  Calls Tryz.prog 56 #[.agg #[.int .i64 a0_0, .int .i64 a0_1, .slice A0_2 l0_2.length c0_2]] w fun e w' => ∃ v2_ : Value, e = .returned (.agg #[.int .i64 r1, .int .i64 r2, v2_]) ∧ Kd.R k31 31 w' w.heap.size (fun _ => True) v2_ r3 ∧ Below w.heap.size w w' := by
 have hu34 := Tryz.underlying34
 have hu31 := Tryz.underlying31
 have HR0_2 := Aside0.mk hr0_2
 have HC0_2 := Aside0.mk hc0_2
 clear hr0_2 hc0_2
 have HB := Aside0.mk (Below.refl w.heap.size w)
 have H : ((some (([] : List (S31)) : List (S31))).bind fun y136 => (if y136.length + l0_2.length < 8796093022208 then (some (a0_0, a0_1, (y136 ++ l0_2))) else (none))) = some (r1, r2, r3) := h
 clear h
 obtain ⟨y136, hy136⟩ : ∃ y_ : List (S31), y_ = (([] : List (S31))) := ⟨_, rfl⟩
 replace H : (if y136.length + l0_2.length < 8796093022208 then (some (a0_0, a0_1, (y136 ++ l0_2))) else (none)) = some (r1, r2, r3) := sqW hy136 H
 have Ny136 := Aside0.mk hy136
 clear hy136
 obtain ⟨c2, H⟩ := sqI H
 have LMc2 := Aside0.mk c2
 clear c2
 obtain ⟨y139, hy139⟩ : ∃ y_ : List (S31), y_ = (y136 ++ l0_2) := ⟨_, rfl⟩
 replace H : (some (a0_0, a0_1, y139)) = some (r1, r2, r3) := sqW hy139 H
 have Ny139 := Aside0.mk hy139
 clear hy139
 simp only [Option.some.injEq, Prod.mk.injEq] at H
 obtain ⟨rfl, rfl, rfl⟩ := H
 go_enter Tryz.func56, Tryz.ntmps56
 try go_wp2_with (first | ((with_reducible refine gate_dst (N := 1) rfl ?_); refine sqBox (N := 1) (cs := #[.int .i64 a0_0, .int .i64 a0_1, .slice A0_2 l0_2.length c0_2]) (t := 34) ?_; intro gb134 hg w3 BK134 hb; have GW134 := Aside0.mk ((sqG hg (sqB HB))); have GE134 := GW134; replace HB := sqS (sqB HB) hb; clear hb hg) | ((with_reducible refine gate_dst (N := 2) rfl ?_); refine sqBox (N := 2) (cs := #[.int .i64 0, .int .i64 0, .slice none 0 0]) (t := 34) ?_; intro gb135 hg w4 BK135 hb; have GW135 := Aside0.mk ((sqG hg (sqB1 HB GE134))); have GE135 := GW135; replace HB := sqS (sqB1 HB GE134) hb; obtain ⟨NB134_135, NB135_134⟩ := sqM hg BK134; replace BK134 := sqT BK134 hb; clear hb hg))
 replace BK134 := Aside0.mk (blk_drew BK134.out)
 replace BK135 := Aside0.mk (blk_drew BK135.out)
 replace HB := Aside0.mk (below_drew1 HB.out)
 refine start_ (n := 8) (S := fun w' => w'.cell? ⟨gb134, 0, none⟩ = some (.int .i64 a0_0) ∧ w'.cell? ⟨gb134, 1, none⟩ = some (.int .i64 a0_1) ∧ w'.cell? ⟨gb134, 2, none⟩ = some (.slice A0_2 l0_2.length c0_2)) (ds := []) #[false, false, false, false, false, false, false, false] (by kernel_rfl) rfl rfl ⟨(blk_cell BK134.out 0).trans rfl, (blk_cell BK134.out 1).trans rfl, (blk_cell BK134.out 2).trans rfl⟩ (fun hHeld => ?_); refine with_tabW spec_l11Copy.tab1 spec_l11Copy.bits1 (fun HT_ HW_ => ?_)
 generalize w4.drew = w5 at BK134 BK135 HB hHeld ⊢
 refine sqP (i := 0) (N := some 3) (h := ?_)
 refine sqP (i := 3) (N := some 6) (h := ?_)
 refine take_ (i := 1) (N := some 4) (v := ?_) (a' := ?_) #[true, true, false, true, false, false, false, false] rfl rfl (take_ofW HT_.out HW_.out (by kernel_rfl)) (fun _ _ _ h => h) (Or.inl ⟨by rfl, ?_⟩) hHeld ?_ ?_
 rotate_left
 ·rintro w' ⟨s0, s1, s2⟩
  go_simp
  with_reducible rfl
 rotate_left
 ·simp only [Act.put, List.setIfInBounds_toArray, List.set_cons_zero, List.set_cons_succ, i64_w, i32_w]
  rfl
 refine take_ (i := 4) (N := some 7) (v := ?_) (a' := ?_) #[true, true, false, true, true, false, false, false] rfl rfl (take_ofW HT_.out HW_.out (by kernel_rfl)) (fun _ _ _ h => h) (Or.inl ⟨by rfl, ?_⟩) hHeld ?_ ?_
 rotate_left
 ·rintro w' ⟨s0, s1, s2⟩
  go_simp
  with_reducible rfl
 rotate_left
 ·simp only [Act.put, List.setIfInBounds_toArray, List.set_cons_zero, List.set_cons_succ, i64_w, i32_w]
  rfl
 refine one_ (i := 2) (N := some 5) #[true, true, true, true, true, false, false, false] rfl rfl (one_of HT_.out (by kernel_rfl)) (by decide) (fun K hK => ?_)
 refine Kd.R_lit_step k31 _ 31 ?hg (N := 5) ?hd (xs := ([] : List (S31))) (inner := []) (ok := fun _ => True) (okp := fun _ => True) ?hr ?hp (fun _ hk => hk) trivial (Below.refl _ _) (Nat.le_refl _) (by simp) ?_; (case hd => rfl); (case hg => rfl); (case hr => exact Z8); (case hp => exact (Reps.none _ _))
 intro v137 w6 ho7 hb hg_ hnew_
 clear hg_ hnew_
 (first | rw [← Ny136.out] at ho7 | (simp only [Int.reduceToNat] at ho7; rw [← Ny136.out] at ho7))
 have HO138 := sqL ho7 (sqB2 HB GE134 GE135)
 replace BK134 := sqT BK134 hb
 replace BK135 := sqT BK135 hb
 replace HB := sqS (sqB2 HB GE134 GE135) hb
 clear hb ho7
 refine hK.out _ _ ⟨(blk_cell BK134.out 0).trans rfl, (blk_cell BK134.out 1).trans rfl, (blk_cell BK134.out 2).trans rfl⟩ (fun hHeld => ?_)
 clear hK K
 refine sqN (some 5) ?_
 refine one_ (i := 5) (N := some 8) #[true, true, true, true, true, true, false, false] rfl rfl (one_of HT_.out (by kernel_rfl)) (by decide) (fun K hK => ?_)
 refine Kd.R_append_rows_step k31 (w0 := w) w.heap.size (by rfl) (.tmp 5) (.tmp 7) 32 31 (.agg #[(.int .i64 0), (.int .i64 0)]) 16 rfl Tryz.underlying32 info31 rfl (by decide) (by omega) v137 y136 l0_2 _ _ _ (fun _ => True) (fun _ => False) rfl rfl ?aO ?aR (fun _ _ h => h) (fun _ h => h.elim) ?aF ?aB ?aS ?aL ?_
 (case aR => exact Z1)
 (case aB => exact (sqB2 HB GE134 GE135))
 (case aF => exact (fun _ _ => trivial))
 (case aO => exact (sqR HO138))
 (case aS => exact (below_size (sqB2 HB GE134 GE135)))
 (case aL => exact Z16 LMc2)
 intro v140 w8 ho hb hg hat
 rw [← Ny139.out] at ho
 replace BK134 := Aside0.mk (blk_grown (sqK BK134) hg (Kd.R_ne HO138.out BK134.out (by decide)))
 replace BK135 := Aside0.mk (blk_grown (sqK BK135) hg (Kd.R_ne HO138.out BK135.out (by decide)))
 replace HB := Aside0.mk (hb)
 have HO141 := Aside0.mk (ho)
 clear HO138
 clear ho hb hg hat
 obtain ⟨Ao9, co9, eo9⟩ := Kd.R_slice HO141.out
 (first | subst eo9 | (injection eo9 with f1_ f2_ f3_; have f4_ := f1_.symm; have f5_ := f3_.symm; clear f1_ f2_ f3_; subst f4_; subst f5_))
 refine hK.out _ _ ⟨(blk_cell BK134.out 0).trans rfl, (blk_cell BK134.out 1).trans rfl, (blk_cell BK134.out 2).trans rfl⟩ (fun hHeld => ?_)
 clear hK K
 refine sqN (some 8) ?_
 refine sqP (i := 6) (N := some 9) (h := ?_)
 refine one_ (i := 7) (N := none) #[true, true, true, true, true, true, true, true] rfl rfl (one_of HT_.out (by kernel_rfl)) (by decide) (fun K hK => ?_)
 have hs10 : w8.cell? ⟨gb135, 0, none⟩ = some (.int .i64 0) := (blk_cell BK135.out 0).trans rfl
 have hfs10 := blk_frozen BK135.out 0
 have hns10_0 := NB134_135.out
 have hms10_0 := NB135_134.out
 have hs11 : w8.cell? ⟨gb135, 1, none⟩ = some (.int .i64 0) := (blk_cell BK135.out 1).trans rfl
 have hfs11 := blk_frozen BK135.out 1
 have hns11_0 := NB134_135.out
 have hms11_0 := NB135_134.out
 have hs12 : w8.cell? ⟨gb135, 2, none⟩ = some (.slice none 0 0) := (blk_cell BK135.out 2).trans rfl
 have hfs12 := blk_frozen BK135.out 2
 have hns12_0 := NB134_135.out
 have hms12_0 := NB135_134.out
 refine skip_ (w1 := ?_) (by rfl) rfl ?_ ?_
 rotate_left
 ·go_simp
  rfl
 refine hK.out _ _ ⟨((cell_far (p := ⟨gb135, _, none⟩) NB134_135.out _).trans (((cell_far (p := ⟨gb135, _, none⟩) NB134_135.out _).trans (((cell_far (p := ⟨gb135, _, none⟩) NB134_135.out _).trans (hHeld.1)))))), ((cell_far (p := ⟨gb135, _, none⟩) NB134_135.out _).trans (((cell_far (p := ⟨gb135, _, none⟩) NB134_135.out _).trans (((cell_far (p := ⟨gb135, _, none⟩) NB134_135.out _).trans (hHeld.2.1)))))), ((cell_far (p := ⟨gb135, _, none⟩) NB134_135.out _).trans (((cell_far (p := ⟨gb135, _, none⟩) NB134_135.out _).trans (((cell_far (p := ⟨gb135, _, none⟩) NB134_135.out _).trans (hHeld.2.2))))))⟩ (fun hHeld => ?_)
 clear hK K
 refine done_ (done_of HT_.out (by kernel_rfl)) ?_
 try go_wp2
 refine bodyPost_ret (results_cell_row rfl _ _ gb135 34 #[.int .i64 a0_0, .int .i64 a0_1, .slice Ao9 y139.length co9] (0, 0) _ rfl (Z34 BK135) Tryz.underlying34 rfl (by kernel_rfl)) rfl ?_
 exact ⟨_, Z15, by (with_reducible repeat (first | apply Kd.R_alloc | apply Kd.R_drewN | apply Kd.R_drew)); exact Kd.R_mono (Kd.R_far (p := ⟨gb135, 2, none⟩) (Kd.R_far (p := ⟨gb135, 1, none⟩) (Kd.R_far (p := ⟨gb135, 0, none⟩) (Kd.R_types HO141.out BK135.out (by decide)) (fun _ hk => hk.2) (.int .i64 a0_0)) (fun _ hk => hk.2) (.int .i64 a0_1)) (fun _ hk => hk.2) (.slice Ao9 y139.length co9)) (fun _ hk => trivial), sqB2 HB GE134 GE135⟩

/-! ### spec_PlusOf: function 127 -/
def spec_PlusOf.f (k : Nat) (a0_0 : Int) (a0_1 : Int) (a1 : Int) : Option (Int × Int × Bool) := (spec_FractionOk.f k a0_0 a0_1).bind fun t145 => (if t145 = true then ((spec_l1In.f a1 (-1000000) 1000000).bind fun t146 => (if t146 = true then ((spec_FractionOk.f k (wrap64 (a0_0 + (wrap64 (a1 * a0_1)))) a0_1).bind fun t147 => (if t147 = true then (some (wrap64 (a0_0 + (wrap64 (a1 * a0_1))), a0_1, true)) else (some (0, 0, false)))) else (some (0, 0, false)))) else (some (0, 0, false)))
theorem spec_PlusOf.mono : ∀ a0 a1 a2 k, LeO (spec_PlusOf.f k a0 a1 a2) (spec_PlusOf.f (k + 1) a0 a1 a2) := by
 intro a0 a1 a2 k
 unfold spec_PlusOf.f
 repeat' first
   | (with_reducible exact spec_FractionOk.mono _ _ _)
   | (with_reducible exact LeO.refl _)
   | (with_reducible exact LeO.none _)
   | (with_reducible refine LeO.ite ?_ ?_)
   | (with_reducible refine LeO.bind ?_ (fun _ => ?_))
set_option maxHeartbeats 8000000 in
set_option maxRecDepth 100000 in
theorem spec_PlusOf.calls (k : Nat) (a0_0 : Int) (a0_1 : Int) (a1 : Int) (r1 : Int) (r2 : Int) (r3 : Bool) (w : World) (h : spec_PlusOf.f k a0_0 a0_1 a1 = some (r1, r2, r3)) :
  Calls Tryz.prog 127 #[.agg #[.int .i64 a0_0, .int .i64 a0_1], .int .i64 a1] w fun e w' => e = .returned (.tuple #[.agg #[.int .i64 r1, .int .i64 r2], .bool r3]) ∧ Below w.heap.size w w' := by
 have hu31 := Tryz.underlying31
 have HB := Aside0.mk (Below.refl w.heap.size w)
 have H : ((spec_FractionOk.f k a0_0 a0_1).bind fun t145 => (if t145 = true then ((spec_l1In.f a1 (-1000000) 1000000).bind fun t146 => (if t146 = true then ((spec_FractionOk.f k (wrap64 (a0_0 + (wrap64 (a1 * a0_1)))) a0_1).bind fun t147 => (if t147 = true then (some (wrap64 (a0_0 + (wrap64 (a1 * a0_1))), a0_1, true)) else (some (0, 0, false)))) else (some (0, 0, false)))) else (some (0, 0, false)))) = some (r1, r2, r3) := h
 clear h
 obtain ⟨t145, A3, H⟩ := sqD H
 by_cases c4 : t145 = true
 ·subst c4
  rw [if_pos rfl] at H
  obtain ⟨t146, A5, H⟩ := sqD H
  by_cases c6 : t146 = true
  ·subst c6
   rw [if_pos rfl] at H
   obtain ⟨t147, A7, H⟩ := sqD H
   by_cases c8 : t147 = true
   ·subst c8
    rw [if_pos rfl] at H
    simp only [Option.some.injEq, Prod.mk.injEq] at H
    obtain ⟨rfl, rfl, rfl⟩ := H
    go_enter Tryz.func127, Tryz.ntmps127
    go_wp2_with (first | ((with_reducible refine gate_dst (N := 2) rfl ?_); refine sqBox (N := 2) (cs := #[.int .i64 a0_0, .int .i64 a0_1]) (t := 31) ?_; intro gb142 hg w9 BK142 hb; have GW142 := Aside0.mk ((sqG hg (sqB HB))); have GE142 := GW142; replace HB := sqS (sqB HB) hb; clear hb hg) | ((with_reducible refine gate_dst (N := 4) rfl ?_); refine sqBox (N := 4) (cs := #[.int .i64 0, .int .i64 0]) (t := 31) ?_; intro gb143 hg w10 BK143 hb; have GW143 := Aside0.mk ((sqG hg (sqB1 HB GE142))); have GE143 := GW143; replace HB := sqS (sqB1 HB GE142) hb; obtain ⟨NB142_143, NB143_142⟩ := sqM hg BK142; replace BK142 := sqT BK142 hb; clear hb hg; have hnb11 := NB142_143.out; have hnc11 := NB143_142.out; obtain ⟨hcz12_0, hcz12_1, hfz12_0, hfz12_1⟩ := sqY2 BK142) | ((with_reducible refine gate_dst (N := 6) rfl ?_); refine sqBox (N := 6) (cs := #[.int .i64 0, .int .i64 0]) (t := 31) ?_; intro gb144 hg w13 BK144 hb; have GW144 := Aside0.mk ((sqG hg (sqB2 HB GE142 GE143))); have GE144 := GW144; replace HB := sqS (sqB2 HB GE142 GE143) hb; obtain ⟨NB142_144, NB144_142⟩ := sqM hg BK142; replace BK142 := sqT BK142 hb; obtain ⟨NB143_144, NB144_143⟩ := sqM hg BK143; replace BK143 := sqT BK143 hb; clear hb hg; have hnb14 := NB144_142.out; have hnc14 := NB142_144.out; have hnb15 := NB144_143.out; have hnc15 := NB143_144.out; obtain ⟨hcz16_0, hcz16_1, hfz16_0, hfz16_1⟩ := sqY2 BK144; obtain ⟨hcz17_0, hcz17_1, hfz17_0, hfz17_1⟩ := sqY2 BK142) | ((with_reducible refine gate_callee (f := 77) rfl ?_); refine goesL_ (some 18) rfl rfl Tryz.func77 (by kernel_rfl) rfl #[.agg #[.int .i64 a0_0, .int .i64 a0_1]] rfl sqA ?_; (with_reducible refine (spec_FractionOk.calls k a0_0 a0_1 true _ A3.out).mono ?_); rintro e w18 ⟨rfl, hb⟩; refine ⟨_, rfl, ?_⟩; replace BK142 := Aside0.mk (blk_below (g := gb142) (o := .cells #[.int .i64 a0_0, .int .i64 a0_1] 31 (0, 0)) (Z9 NB142_144 BK142) hb); replace BK143 := Aside0.mk (blk_below (g := gb143) (o := .cells #[.int .i64 0, .int .i64 0] 31 (0, 0)) (Z9 NB143_144 BK143) hb); replace BK144 := Aside0.mk (blk_below (g := gb144) (o := .cells #[.int .i64 (wrap64 (a0_0 + (wrap64 (a1 * a0_1)))), .int .i64 a0_1] 31 (0, 0)) (Z35 BK144) hb); replace HB := sqS (sqB3 HB GE142 GE143 GE144) hb; (try clear hb)) | (go_at_call 101; (with_reducible refine (spec_l1In.calls a1 (-1000000) 1000000 true _ A5.out).mono ?_); rintro e w' ⟨rfl, ⟨nd, rfl⟩⟩; (try (rw [drewN_self w18]; generalize hq_ : World.drewN w18 _ = w18; have n0_ : Aside0 (w18.heap[gb142]? = some (.cells #[.int .i64 a0_0, .int .i64 a0_1] 31 (0, 0))) := ⟨Z57 BK142⟩; have n1_ : Aside0 (w18.heap[gb143]? = some (.cells #[.int .i64 0, .int .i64 0] 31 (0, 0))) := ⟨Z57 BK143⟩; have n2_ : Aside0 (w18.heap[gb144]? = some (.cells #[.int .i64 (wrap64 (a0_0 + (wrap64 (a1 * a0_1)))), .int .i64 a0_1] 31 (0, 0))) := ⟨Z57 BK144⟩; have n3_ : Aside0 (Below w.heap.size w w18) := ⟨by rw [← hq_]; exact (sqB3 HB GE142 GE143 GE144)⟩; clear BK142 BK143 BK144 HB hq_; have BK142 := n0_; have BK143 := n1_; have BK144 := n2_; have HB := n3_; clear n0_ n1_ n2_ n3_)); have hcz19_0 : w18.cell? ⟨gb144, 0, none⟩ = some (.int .i64 (wrap64 (a0_0 + (wrap64 (a1 * a0_1))))) := (blk_cell BK144.out 0).trans rfl; have hcz19_1 := sqZ BK144 1 (.int .i64 a0_1); have hfz19_0 := blk_frozen BK144.out 0; have hfz19_1 := blk_frozen BK144.out 1) | (go_at_call 77; (with_reducible refine (spec_FractionOk.calls k (wrap64 (a0_0 + (wrap64 (a1 * a0_1)))) a0_1 true _ A7.out).mono ?_); rintro e w20 ⟨rfl, hb⟩; replace BK142 := sqT BK142 hb; replace BK143 := sqT BK143 hb; replace BK144 := sqT BK144 hb; replace HB := sqS (sqB3 HB GE142 GE143 GE144) hb; (try clear hb); have hcz21_0 : w20.cell? ⟨gb144, 0, none⟩ = some (.int .i64 (wrap64 (a0_0 + (wrap64 (a1 * a0_1))))) := (blk_cell BK144.out 0).trans rfl; have hcz21_1 := sqZ BK144 1 (.int .i64 a0_1); have hfz21_0 := blk_frozen BK144.out 0; have hfz21_1 := blk_frozen BK144.out 1; obtain ⟨hcz22_0, hcz22_1, hfz22_0, hfz22_1⟩ := sqY2 BK143))
    refine bodyPost_ret (results_ct rfl _ _ gb143 31 #[.int .i64 (wrap64 (a0_0 + (wrap64 (a1 * a0_1)))), .int .i64 a0_1] (0, 0) _ rfl (Z35 BK143) Tryz.underlying31 rfl (by kernel_rfl)) rfl ?_
    exact ⟨Z15, sqB3 HB GE142 GE143 GE144⟩
   ·replace c8 := Bool.eq_false_iff.mpr c8
    subst c8
    rw [if_neg sqF] at H
    simp only [Option.some.injEq, Prod.mk.injEq] at H
    obtain ⟨rfl, rfl, rfl⟩ := H
    go_enter Tryz.func127, Tryz.ntmps127
    go_wp2_with (first | ((with_reducible refine gate_dst (N := 2) rfl ?_); refine sqBox (N := 2) (cs := #[.int .i64 a0_0, .int .i64 a0_1]) (t := 31) ?_; intro gb142 hg w23 BK142 hb; have GW142 := Aside0.mk ((sqG hg (sqB HB))); have GE142 := GW142; replace HB := sqS (sqB HB) hb; clear hb hg) | ((with_reducible refine gate_dst (N := 4) rfl ?_); refine sqBox (N := 4) (cs := #[.int .i64 0, .int .i64 0]) (t := 31) ?_; intro gb143 hg w24 BK143 hb; have GW143 := Aside0.mk ((sqG hg (sqB1 HB GE142))); have GE143 := GW143; replace HB := sqS (sqB1 HB GE142) hb; obtain ⟨NB142_143, NB143_142⟩ := sqM hg BK142; replace BK142 := sqT BK142 hb; clear hb hg; have hnb25 := NB142_143.out; have hnc25 := NB143_142.out; obtain ⟨hcz26_0, hcz26_1, hfz26_0, hfz26_1⟩ := sqY2 BK142) | ((with_reducible refine gate_dst (N := 6) rfl ?_); refine sqBox (N := 6) (cs := #[.int .i64 0, .int .i64 0]) (t := 31) ?_; intro gb144 hg w27 BK144 hb; have GW144 := Aside0.mk ((sqG hg (sqB2 HB GE142 GE143))); have GE144 := GW144; replace HB := sqS (sqB2 HB GE142 GE143) hb; obtain ⟨NB142_144, NB144_142⟩ := sqM hg BK142; replace BK142 := sqT BK142 hb; obtain ⟨NB143_144, NB144_143⟩ := sqM hg BK143; replace BK143 := sqT BK143 hb; clear hb hg; have hnb28 := NB144_142.out; have hnc28 := NB142_144.out; have hnb29 := NB144_143.out; have hnc29 := NB143_144.out; obtain ⟨hcz30_0, hcz30_1, hfz30_0, hfz30_1⟩ := sqY2 BK144; obtain ⟨hcz31_0, hcz31_1, hfz31_0, hfz31_1⟩ := sqY2 BK142) | ((with_reducible refine gate_callee (f := 77) rfl ?_); refine goesL_ (some 18) rfl rfl Tryz.func77 (by kernel_rfl) rfl #[.agg #[.int .i64 a0_0, .int .i64 a0_1]] rfl sqA ?_; (with_reducible refine (spec_FractionOk.calls k a0_0 a0_1 true _ A3.out).mono ?_); rintro e w32 ⟨rfl, hb⟩; refine ⟨_, rfl, ?_⟩; replace BK142 := Aside0.mk (blk_below (g := gb142) (o := .cells #[.int .i64 a0_0, .int .i64 a0_1] 31 (0, 0)) (Z9 NB142_144 BK142) hb); replace BK143 := Aside0.mk (blk_below (g := gb143) (o := .cells #[.int .i64 0, .int .i64 0] 31 (0, 0)) (Z9 NB143_144 BK143) hb); replace BK144 := Aside0.mk (blk_below (g := gb144) (o := .cells #[.int .i64 (wrap64 (a0_0 + (wrap64 (a1 * a0_1)))), .int .i64 a0_1] 31 (0, 0)) (Z35 BK144) hb); replace HB := sqS (sqB3 HB GE142 GE143 GE144) hb; (try clear hb)) | (go_at_call 101; (with_reducible refine (spec_l1In.calls a1 (-1000000) 1000000 true _ A5.out).mono ?_); rintro e w' ⟨rfl, ⟨nd, rfl⟩⟩; (try (rw [drewN_self w32]; generalize hq_ : World.drewN w32 _ = w32; have n0_ : Aside0 (w32.heap[gb142]? = some (.cells #[.int .i64 a0_0, .int .i64 a0_1] 31 (0, 0))) := ⟨Z57 BK142⟩; have n1_ : Aside0 (w32.heap[gb143]? = some (.cells #[.int .i64 0, .int .i64 0] 31 (0, 0))) := ⟨Z57 BK143⟩; have n2_ : Aside0 (w32.heap[gb144]? = some (.cells #[.int .i64 (wrap64 (a0_0 + (wrap64 (a1 * a0_1)))), .int .i64 a0_1] 31 (0, 0))) := ⟨Z57 BK144⟩; have n3_ : Aside0 (Below w.heap.size w w32) := ⟨by rw [← hq_]; exact (sqB3 HB GE142 GE143 GE144)⟩; clear BK142 BK143 BK144 HB hq_; have BK142 := n0_; have BK143 := n1_; have BK144 := n2_; have HB := n3_; clear n0_ n1_ n2_ n3_)); have hcz33_0 : w32.cell? ⟨gb144, 0, none⟩ = some (.int .i64 (wrap64 (a0_0 + (wrap64 (a1 * a0_1))))) := (blk_cell BK144.out 0).trans rfl; have hcz33_1 := sqZ BK144 1 (.int .i64 a0_1); have hfz33_0 := blk_frozen BK144.out 0; have hfz33_1 := blk_frozen BK144.out 1) | (go_at_call 77; (with_reducible refine (spec_FractionOk.calls k (wrap64 (a0_0 + (wrap64 (a1 * a0_1)))) a0_1 false _ A7.out).mono ?_); rintro e w34 ⟨rfl, hb⟩; replace BK142 := sqT BK142 hb; replace BK143 := sqT BK143 hb; replace BK144 := sqT BK144 hb; replace HB := sqS (sqB3 HB GE142 GE143 GE144) hb; (try clear hb); obtain ⟨hcz35_0, hcz35_1, hfz35_0, hfz35_1⟩ := sqY2 BK143))
    refine bodyPost_ret (results_ct rfl _ _ gb143 31 #[.int .i64 0, .int .i64 0] (0, 0) _ rfl (Z36 BK143) Tryz.underlying31 rfl (by kernel_rfl)) rfl ?_
    exact ⟨Z15, sqB3 HB GE142 GE143 GE144⟩
  ·replace c6 := Bool.eq_false_iff.mpr c6
   subst c6
   rw [if_neg sqF] at H
   simp only [Option.some.injEq, Prod.mk.injEq] at H
   obtain ⟨rfl, rfl, rfl⟩ := H
   go_enter Tryz.func127, Tryz.ntmps127
   go_wp2_with (first | ((with_reducible refine gate_dst (N := 2) rfl ?_); refine sqBox (N := 2) (cs := #[.int .i64 a0_0, .int .i64 a0_1]) (t := 31) ?_; intro gb142 hg w36 BK142 hb; have GW142 := Aside0.mk ((sqG hg (sqB HB))); have GE142 := GW142; replace HB := sqS (sqB HB) hb; clear hb hg) | ((with_reducible refine gate_dst (N := 4) rfl ?_); refine sqBox (N := 4) (cs := #[.int .i64 0, .int .i64 0]) (t := 31) ?_; intro gb143 hg w37 BK143 hb; have GW143 := Aside0.mk ((sqG hg (sqB1 HB GE142))); have GE143 := GW143; replace HB := sqS (sqB1 HB GE142) hb; obtain ⟨NB142_143, NB143_142⟩ := sqM hg BK142; replace BK142 := sqT BK142 hb; clear hb hg; have hnb38 := NB142_143.out; have hnc38 := NB143_142.out; obtain ⟨hcz39_0, hcz39_1, hfz39_0, hfz39_1⟩ := sqY2 BK142) | ((with_reducible refine gate_dst (N := 6) rfl ?_); refine sqBox (N := 6) (cs := #[.int .i64 0, .int .i64 0]) (t := 31) ?_; intro gb144 hg w40 BK144 hb; have GW144 := Aside0.mk ((sqG hg (sqB2 HB GE142 GE143))); have GE144 := GW144; replace HB := sqS (sqB2 HB GE142 GE143) hb; obtain ⟨NB142_144, NB144_142⟩ := sqM hg BK142; replace BK142 := sqT BK142 hb; obtain ⟨NB143_144, NB144_143⟩ := sqM hg BK143; replace BK143 := sqT BK143 hb; clear hb hg; have hnb41 := NB144_142.out; have hnc41 := NB142_144.out; have hnb42 := NB144_143.out; have hnc42 := NB143_144.out; obtain ⟨hcz43_0, hcz43_1, hfz43_0, hfz43_1⟩ := sqY2 BK144; obtain ⟨hcz44_0, hcz44_1, hfz44_0, hfz44_1⟩ := sqY2 BK142) | ((with_reducible refine gate_callee (f := 77) rfl ?_); refine goesL_ (some 18) rfl rfl Tryz.func77 (by kernel_rfl) rfl #[.agg #[.int .i64 a0_0, .int .i64 a0_1]] rfl sqA ?_; (with_reducible refine (spec_FractionOk.calls k a0_0 a0_1 true _ A3.out).mono ?_); rintro e w45 ⟨rfl, hb⟩; refine ⟨_, rfl, ?_⟩; replace BK142 := Aside0.mk (blk_below (g := gb142) (o := .cells #[.int .i64 a0_0, .int .i64 a0_1] 31 (0, 0)) (Z9 NB142_144 BK142) hb); replace BK143 := Aside0.mk (blk_below (g := gb143) (o := .cells #[.int .i64 0, .int .i64 0] 31 (0, 0)) (Z9 NB143_144 BK143) hb); replace BK144 := Aside0.mk (blk_below (g := gb144) (o := .cells #[.int .i64 (wrap64 (a0_0 + (wrap64 (a1 * a0_1)))), .int .i64 a0_1] 31 (0, 0)) (Z35 BK144) hb); replace HB := sqS (sqB3 HB GE142 GE143 GE144) hb; (try clear hb)) | (go_at_call 101; (with_reducible refine (spec_l1In.calls a1 (-1000000) 1000000 false _ A5.out).mono ?_); rintro e w' ⟨rfl, ⟨nd, rfl⟩⟩; (try (rw [drewN_self w45]; generalize hq_ : World.drewN w45 _ = w45; have n0_ : Aside0 (w45.heap[gb142]? = some (.cells #[.int .i64 a0_0, .int .i64 a0_1] 31 (0, 0))) := ⟨Z57 BK142⟩; have n1_ : Aside0 (w45.heap[gb143]? = some (.cells #[.int .i64 0, .int .i64 0] 31 (0, 0))) := ⟨Z57 BK143⟩; have n2_ : Aside0 (w45.heap[gb144]? = some (.cells #[.int .i64 (wrap64 (a0_0 + (wrap64 (a1 * a0_1)))), .int .i64 a0_1] 31 (0, 0))) := ⟨Z57 BK144⟩; have n3_ : Aside0 (Below w.heap.size w w45) := ⟨by rw [← hq_]; exact (sqB3 HB GE142 GE143 GE144)⟩; clear BK142 BK143 BK144 HB hq_; have BK142 := n0_; have BK143 := n1_; have BK144 := n2_; have HB := n3_; clear n0_ n1_ n2_ n3_)); obtain ⟨hcz46_0, hcz46_1, hfz46_0, hfz46_1⟩ := sqY2 BK143))
   refine bodyPost_ret (results_ct rfl _ _ gb143 31 #[.int .i64 0, .int .i64 0] (0, 0) _ rfl (Z36 BK143) Tryz.underlying31 rfl (by kernel_rfl)) rfl ?_
   exact ⟨Z15, sqB3 HB GE142 GE143 GE144⟩
 ·replace c4 := Bool.eq_false_iff.mpr c4
  subst c4
  rw [if_neg sqF] at H
  simp only [Option.some.injEq, Prod.mk.injEq] at H
  obtain ⟨rfl, rfl, rfl⟩ := H
  go_enter Tryz.func127, Tryz.ntmps127
  go_wp2_with (first | ((with_reducible refine gate_dst (N := 2) rfl ?_); refine sqBox (N := 2) (cs := #[.int .i64 a0_0, .int .i64 a0_1]) (t := 31) ?_; intro gb142 hg w47 BK142 hb; have GW142 := Aside0.mk ((sqG hg (sqB HB))); have GE142 := GW142; replace HB := sqS (sqB HB) hb; clear hb hg) | ((with_reducible refine gate_dst (N := 4) rfl ?_); refine sqBox (N := 4) (cs := #[.int .i64 0, .int .i64 0]) (t := 31) ?_; intro gb143 hg w48 BK143 hb; have GW143 := Aside0.mk ((sqG hg (sqB1 HB GE142))); have GE143 := GW143; replace HB := sqS (sqB1 HB GE142) hb; obtain ⟨NB142_143, NB143_142⟩ := sqM hg BK142; replace BK142 := sqT BK142 hb; clear hb hg; have hnb49 := NB142_143.out; have hnc49 := NB143_142.out; obtain ⟨hcz50_0, hcz50_1, hfz50_0, hfz50_1⟩ := sqY2 BK142) | ((with_reducible refine gate_dst (N := 6) rfl ?_); refine sqBox (N := 6) (cs := #[.int .i64 0, .int .i64 0]) (t := 31) ?_; intro gb144 hg w51 BK144 hb; have GW144 := Aside0.mk ((sqG hg (sqB2 HB GE142 GE143))); have GE144 := GW144; replace HB := sqS (sqB2 HB GE142 GE143) hb; obtain ⟨NB142_144, NB144_142⟩ := sqM hg BK142; replace BK142 := sqT BK142 hb; obtain ⟨NB143_144, NB144_143⟩ := sqM hg BK143; replace BK143 := sqT BK143 hb; clear hb hg; have hnb52 := NB144_142.out; have hnc52 := NB142_144.out; have hnb53 := NB144_143.out; have hnc53 := NB143_144.out; obtain ⟨hcz54_0, hcz54_1, hfz54_0, hfz54_1⟩ := sqY2 BK144; obtain ⟨hcz55_0, hcz55_1, hfz55_0, hfz55_1⟩ := sqY2 BK142) | ((with_reducible refine gate_callee (f := 77) rfl ?_); refine goesL_ (some 18) rfl rfl Tryz.func77 (by kernel_rfl) rfl #[.agg #[.int .i64 a0_0, .int .i64 a0_1]] rfl sqA ?_; (with_reducible refine (spec_FractionOk.calls k a0_0 a0_1 false _ A3.out).mono ?_); rintro e w56 ⟨rfl, hb⟩; refine ⟨_, rfl, ?_⟩; replace BK142 := Aside0.mk (blk_below (g := gb142) (o := .cells #[.int .i64 a0_0, .int .i64 a0_1] 31 (0, 0)) (Z9 NB142_144 BK142) hb); replace BK143 := Aside0.mk (blk_below (g := gb143) (o := .cells #[.int .i64 0, .int .i64 0] 31 (0, 0)) (Z9 NB143_144 BK143) hb); replace BK144 := Aside0.mk (blk_below (g := gb144) (o := .cells #[.int .i64 (wrap64 (a0_0 + (wrap64 (a1 * a0_1)))), .int .i64 a0_1] 31 (0, 0)) (Z35 BK144) hb); replace HB := sqS (sqB3 HB GE142 GE143 GE144) hb; (try clear hb); obtain ⟨hcz57_0, hcz57_1, hfz57_0, hfz57_1⟩ := sqY2 BK143))
  refine bodyPost_ret (results_ct rfl _ _ gb143 31 #[.int .i64 0, .int .i64 0] (0, 0) _ rfl (Z36 BK143) Tryz.underlying31 rfl (by kernel_rfl)) rfl ?_
  exact ⟨Z15, sqB3 HB GE142 GE143 GE144⟩

end Go.Proofs.YtofmlbgfcohhoaaGreatDoor.PFnDeskRun
