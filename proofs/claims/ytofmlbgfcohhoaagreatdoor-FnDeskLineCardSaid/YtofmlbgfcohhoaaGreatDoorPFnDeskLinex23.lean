import Derived.Test.YtofmlbgfcohhoaaGreatDoorPFnDeskLinex13
set_option maxHeartbeats 8000000
set_option maxRecDepth 100000
namespace Go.Proofs.YtofmlbgfcohhoaaGreatDoor.PFnDeskLine
open Go.RowKit Go.Proofs.YtofmlbgfcohhoaaGreatDoorW.PrintWords Go.Proofs.YtofmlbgfcohhoaaGreatDoorW.PrintLast Go.Proofs.YtofmlbgfcohhoaaGreatDoorW.PrintMore Go.Proofs.YtofmlbgfcohhoaaGreatDoor.Lib Go.Proofs.Tryz
attribute [local go_sem] max2_int min2_int max_two min_two max_three min_three max_four min_four
set_option linter.unusedVariables false
set_option linter.unusedSimpArgs false

/-- A state of type 131 at block g of W; what its slices lead to came in by w0. -/
def IsS131 (w0 W : World) (g : Nat) (f0 : List Int) (f1 : Int) : Prop := ∃ A0 c0, W.heap[g]? = some (.cells #[.slice A0 f0.length c0, .int .i64 f1] 131 (0, 0)) ∧ w0.heap.size ≤ g ∧ Kd.C (Kd.int .u8) w0 A0 f0.length f0
theorem IsS131.grown {w0 W : World} {g : Nat} {f0 : List Int} {f1 : Int} {W1 : World} {row : Option Nat} (h : IsS131 w0 W g f0 f1) (hw : W.grownBy W1 row) (hne : some g ≠ row) : IsS131 w0 W1 g f0 f1 := by
 obtain ⟨A0, c0, hb, hg, hr0⟩ := h
 exact ⟨A0, c0, blk_grown hb hw hne, hg, hr0⟩
theorem IsS131.own_neN {w0 W : World} {g : Nat} {f0 : List Int} {f1 : Int} {α : Type} {d : Kd α} {e : Nat} {base : Nat} {ok : Nat → Prop} {v : Value} {xs : List α} (h : IsS131 w0 W g f0 f1) (ho : Kd.N d e W base ok v xs) (ht : e ≠ 131) : some g ≠ v.ownBlock := by
 obtain ⟨A0, c0, hb, hg, hr0⟩ := h
 exact Kd.N_ne ho hb ht
theorem IsS131.fresh {w0 W : World} {g : Nat} {f0 : List Int} {f1 : Int} (h : IsS131 w0 W g f0 f1) : ∀ k, W.heap.size ≤ k → k ≠ g := by
 obtain ⟨A0, c0, hb, hg, hr0⟩ := h
 exact Kd.freshB hb
theorem IsS131.kept {w0 W : World} {g : Nat} {f0 : List Int} {f1 : Int} {W1 : World} {S : Nat → Prop} (h : IsS131 w0 W g f0 f1) (hk : Kept W W1 S) (hne : ¬ S g) : IsS131 w0 W1 g f0 f1 := by
 obtain ⟨A0, c0, hb, hg, hr0⟩ := h
 exact ⟨A0, c0, blk_kept hb hk hne, hg, hr0⟩
theorem IsS131.below {w0 W : World} {g : Nat} {f0 : List Int} {f1 : Int} {W1 : World} (h : IsS131 w0 W g f0 f1) (hw : Below W.heap.size W W1) : IsS131 w0 W1 g f0 f1 := h.grown (grown_of_below hw none) (by simp)
theorem IsS131.alloc {w0 W : World} {g : Nat} {f0 : List Int} {f1 : Int} (h : IsS131 w0 W g f0 f1) (o : Obj) : IsS131 w0 (W.alloc o) g f0 f1 := h.below (below_alloc (Below.refl _ _) o)
theorem IsS131.drewN {w0 W : World} {g : Nat} {f0 : List Int} {f1 : Int} (h : IsS131 w0 W g f0 f1) (m : Nat) : IsS131 w0 (W.drewN m) g f0 f1 := h
theorem IsS131.drew {w0 W : World} {g : Nat} {f0 : List Int} {f1 : Int} (h : IsS131 w0 W g f0 f1) : IsS131 w0 W.drew g f0 f1 := h
theorem IsS131.at_ {w0 W : World} {g : Nat} {f0 : List Int} {f1 : Int} {w' : World} {m : Nat} (hq : W.drewN m = w') (h : IsS131 w0 W g f0 f1) : IsS131 w0 w' g f0 f1 := by subst hq; exact IsS131.drewN h m
theorem IsS131.apart {w0 W : World} {g : Nat} {f0 : List Int} {f1 : Int} {α : Type} {d : Kd α} {e : Nat} {base : Nat} {ok : Nat → Prop} {v : Value} {xs : List α} (h : IsS131 w0 W g f0 f1) (ho : d.R e W base ok v xs) (ht : ∀ q, q ∈ e :: d.E → q ≠ 131) : d.R e W base (fun k => ok k ∧ k ≠ g) v xs := by
 obtain ⟨A0, c0, hb, hg, hr0⟩ := h
 exact Kd.R_types ho hb ht
theorem IsS131.own_ne {w0 W : World} {g : Nat} {f0 : List Int} {f1 : Int} {α : Type} {d : Kd α} {e : Nat} {base : Nat} {ok : Nat → Prop} {v : Value} {xs : List α} (h : IsS131 w0 W g f0 f1) (ho : d.R e W base ok v xs) (ht : e ≠ 131) : some g ≠ v.ownBlock := by
 obtain ⟨A0, c0, hb, hg, hr0⟩ := h
 exact Kd.R_ne ho hb ht
theorem IsS131.apartQ {w0 W : World} {g : Nat} {f0 : List Int} {f1 : Int} {α : Type} {d : Kd α} {e : Nat} {base : Nat} {ok : Nat → Prop} {v : Value} {xs : List α} (h : IsS131 w0 W g f0 f1) (ho : d.Q e W base ok v xs) (ht : ∀ q, q ∈ e :: d.E → q ≠ 131) : d.Q e W base (fun k => ok k ∧ k ≠ g) v xs := by
 obtain ⟨A0, c0, hb, hg, hr0⟩ := h
 exact Kd.Q_types ho hb ht
theorem IsS131.own_neQ {w0 W : World} {g : Nat} {f0 : List Int} {f1 : Int} {α : Type} {d : Kd α} {e : Nat} {base : Nat} {ok : Nat → Prop} {v : Value} {xs : List α} (h : IsS131 w0 W g f0 f1) (ho : d.Q e W base ok v xs) (ht : e ≠ 131) : some g ≠ v.ownBlock := by
 obtain ⟨A0, c0, hb, hg, hr0⟩ := h
 exact Kd.Q_ne ho hb ht
theorem IsS131.apartS {w0 W : World} {g : Nat} {f0 : List Int} {f1 : Int} {α : Type} {d : Kd α} {e : Nat} {base : Nat} {ok : Nat → Prop} {v : Value} {xs : List α} (h : IsS131 w0 W g f0 f1) (ho : d.S e W base ok v xs) (ht : ∀ q, q ∈ e :: d.E → q ≠ 131) : d.S e W base (fun k => ok k ∧ k ≠ g) v xs := by
 obtain ⟨A0, c0, hb, hg, hr0⟩ := h
 exact Kd.S_types ho hb ht
theorem IsS131.own_neS {w0 W : World} {g : Nat} {f0 : List Int} {f1 : Int} {α : Type} {d : Kd α} {e : Nat} {base : Nat} {ok : Nat → Prop} {v : Value} {xs : List α} (h : IsS131 w0 W g f0 f1) (ho : d.S e W base ok v xs) (ht : e ≠ 131) : some g ≠ v.ownBlock := by
 obtain ⟨A0, c0, hb, hg, hr0⟩ := h
 exact Kd.S_ne ho hb ht
theorem IsS131.lt {w0 W : World} {g : Nat} {f0 : List Int} {f1 : Int} (h : IsS131 w0 W g f0 f1) : g < W.heap.size := by
 obtain ⟨A0, c0, hb, hg, hr0⟩ := h
 exact blk_lt hb
theorem IsS131.ge {w0 W : World} {g : Nat} {f0 : List Int} {f1 : Int} (h : IsS131 w0 W g f0 f1) : w0.heap.size ≤ g := by
 obtain ⟨A0, c0, hb, hg, hr0⟩ := h
 exact hg
theorem IsS131.ne_blk {w0 W : World} {g : Nat} {f0 : List Int} {f1 : Int} {a : Nat} {cs : Array Value} {t : TypeId} {fr : Nat × Nat} (h : IsS131 w0 W g f0 f1) (hb2 : W.heap[a]? = some (.cells cs t fr)) (ht : t ≠ 131) : g ≠ a := by
 obtain ⟨A0, c0, hb, hg, hr0⟩ := h
 rintro rfl
 rw [hb] at hb2
 injection hb2 with hb2
 injection hb2 with _ ht2
 exact ht ht2.symm
theorem IsS131.far {w0 W : World} {g : Nat} {f0 : List Int} {f1 : Int} {p : Addr} (h : IsS131 w0 W g f0 f1) (hne : g ≠ p.block) (u : Value) : IsS131 w0 (W.setCell p u) g f0 f1 := by
 obtain ⟨A0, c0, hb, hg, hr0⟩ := h
 exact ⟨A0, c0, blk_far hb hne u, hg, hr0⟩
theorem cellS131_0 {W : World} {g : Nat} {A0 : Option Addr} {c0 : Nat} {f0 : List Int} {f1 : Int} (h : W.heap[g]? = some (.cells #[.slice A0 f0.length c0, .int .i64 f1] 131 (0, 0))) : W.cell? ⟨g, 0, none⟩ = some (.slice A0 f0.length c0) := (blk_cell h 0).trans rfl
theorem cellS131_1 {W : World} {g : Nat} {A0 : Option Addr} {c0 : Nat} {f0 : List Int} {f1 : Int} (h : W.heap[g]? = some (.cells #[.slice A0 f0.length c0, .int .i64 f1] 131 (0, 0))) : W.cell? ⟨g, 1, none⟩ = some (.int .i64 f1) := (blk_cell h 1).trans rfl
theorem IsS131.set_1 {w0 W : World} {g : Nat} {f0 : List Int} {f1 : Int} (h : IsS131 w0 W g f0 f1) (x : Int) : IsS131 w0 (W.setCell ⟨g, 1, none⟩ (.int .i64 x)) g f0 x := by
 obtain ⟨A0, c0, hb, hg, hr0⟩ := h
 exact ⟨A0, c0, by simpa using blk_set hb 1 (.int .i64 x), hg, hr0⟩
theorem IsS131.new (w0 W : World) (A0 : Option Addr) (c0 : Nat) (f0 : List Int) (f1 : Int) (hB : Below w0.heap.size w0 W) (hr0 : Kd.C (Kd.int .u8) w0 A0 f0.length f0) : IsS131 w0 (W.alloc (.cells #[.slice A0 f0.length c0, .int .i64 f1] 131)) W.heap.size f0 f1 := ⟨A0, c0, by simpa using heap_alloc_new W _, hB.size, hr0⟩

/-! ### spec_l20Open: function 66 -/
def spec_l20Open.f (l0 : List Int) : Option (List Int × Int) := if (l0.length : Int) > 2000 then (if 2000 ≤ (l0.length : Int) then (some (l0.take 2000, 0)) else (none)) else (some (l0, 0))
theorem spec_l20Open.calls (A0 : Option Addr) (c0 : Nat) (l0 : List Int) (r1 : List Int) (r2 : Int) (w0 w : World) (hB : Below w0.heap.size w0 w) (hr0 : Kd.C (Kd.int .u8) w0 A0 l0.length l0) (hc0 : l0.length ≤ c0) (H : spec_l20Open.f l0 = some (r1, r2)) :
  Calls prog 66 #[.slice A0 l0.length c0] w fun e w' => ∃ g_ : Nat, e = .returned (.pointer (some ⟨g_, 0, none⟩)) ∧ IsS131 w0 w' g_ r1 r2 ∧ Below w0.heap.size w0 w' ∧ Below w.heap.size w w' := by
 have hu131 := underlying131
 have HR0 := sqa hr0
 have HC0 := sqa hc0
 clear hr0 hc0
 have HBW := sqa (Below.refl w.heap.size w)
 have HW0 := sqa hB.size
 have HB := sqa hB
 clear hB
 unfold spec_l20Open.f at H
 by_cases c2 : (l0.length : Int) > 2000
 ·rw [if_pos c2] at H
  have c2b0 : decide (2000 < (l0.length : Int)) = true := decide_eq_true c2
  have c2b1 : decide (2000 < l0.length) = true := decide_eq_true (by omega)
  clear c2
  obtain ⟨c3, H⟩ := sqI H
  have c3b0 := eq_true c3
  have c3b1 : decide (2000 ≤ (l0.length : Int)) = true := decide_eq_true c3
  clear c3
  obtain ⟨rfl, rfl⟩ := sqO2 H
  obtain ⟨i04, hi0, _, hsz4, _⟩ := info_parts info5
  obtain ⟨hcut4, hA4, hC4⟩ := print_take_of (P := prog) (Value.int .u8) 0 43 5 .i64 underlying43 hi0 hsz4 A0 c0 l0 2000 (by omega) (of_decide_eq_true Z16) HC0.1
  have HR1 := sqa (Kd.C_of_reads (h1 := fun _ => rfl) (hA4 _ (Kd.reads_of_C HR0.1)))
  have HC1 := sqa hC4
  clear hA4 hC4 hi0 hsz4
  go_enter func66, ntmps66
  go_wp2_with (first | ((with_reducible refine sqd 10 rfl ?_); refine sqBox (N := 10) (cs := #[.slice A0 (l0.take 2000).length c0, .int .i64 0]) (t := 131) ?_; intro g0 hg w5 B0 hb; replace HB := sqS (sqB HB) hb; have GW0 := sqa ((sqG hg (sqB HBW))); have E0 := sqa ((Nat.le_trans HW0.out (sqG hg (sqB HBW)) : w0.heap.size ≤ g0)); replace HBW := sqa (below_step HBW.1 hb); clear hb hg))
  go_ret
  exact ⟨_, rfl, (show IsS131 w0 _ g0 (l0.take 2000) 0 from ⟨_, _, by exact sqK B0, E0.1, HR1.1⟩), sqB1 HB E0, sqB1 HBW GW0⟩
 rw [if_neg c2] at H
 have c2b0 : decide (2000 < (l0.length : Int)) = false := decide_eq_false c2
 have c2b1 : decide (2000 < l0.length) = false := decide_eq_false (by omega)
 clear c2
 obtain ⟨rfl, rfl⟩ := sqO2 H
 go_enter func66, ntmps66
 go_wp2_with (first | ((with_reducible refine sqd 10 rfl ?_); refine sqBox (N := 10) (cs := #[.slice A0 l0.length c0, .int .i64 0]) (t := 131) ?_; intro g1 hg w6 B2 hb; replace HB := sqS (sqB HB) hb; have GW1 := sqa ((sqG hg (sqB HBW))); have E1 := sqa ((Nat.le_trans HW0.out (sqG hg (sqB HBW)) : w0.heap.size ≤ g1)); replace HBW := sqa (below_step HBW.1 hb); clear hb hg))
 go_ret
 exact ⟨_, rfl, (show IsS131 w0 _ g1 l0 0 from ⟨_, _, by exact sqK B2, E1.1, HR0.1⟩), sqB1 HB E1, sqB1 HBW GW1⟩

/-! ### spec_l20Rd_pick: function 82 -/
def spec_l20Rd_pick.j0 : Nat → Int → Bool → List Int → Int → Option (Int × Int)
 | 0, _, _, _, _ => none
 | k + 1, x1, x0, x2, x3 => if x0 = true then (some (0, x3)) else (if (wrap64 (x3 - 1)) < (x2.length : Int) then (if 0 ≤ (wrap64 (x3 - 1)) then (if x1 = 0 then (none) else (some (Int.tmod (wrap64 (rd x2 (wrap64 (x3 - 1)))) x1, x3))) else (none)) else (if (x2.length : Int) = 0 then (none) else (if 0 ≤ (Int.tmod (wrap64 (x3 - 1)) (x2.length : Int)) then (if (Int.tmod (wrap64 (x3 - 1)) (x2.length : Int)) < (x2.length : Int) then (if 0 ≤ (Int.tmod (wrap64 ((wrap64 ((wrap64 (x3 - 1)) * 7)) + 3)) (x2.length : Int)) then (if (Int.tmod (wrap64 ((wrap64 ((wrap64 (x3 - 1)) * 7)) + 3)) (x2.length : Int)) < (x2.length : Int) then (if x1 = 0 then (none) else (some (Int.tmod (Go.bits .xor .i64 (wrap64 ((wrap64 ((wrap64 ((wrap64 ((wrap64 (rd x2 (Int.tmod (wrap64 (x3 - 1)) (x2.length : Int)))) * 131)) + (wrap64 ((wrap64 (rd x2 (Int.tmod (wrap64 ((wrap64 ((wrap64 (x3 - 1)) * 7)) + 3)) (x2.length : Int)))) * 1117)))) + (wrap64 ((wrap64 (x3 - 1)) * 29)))) + (wrap64 ((wrap64 (Int.tdiv (wrap64 (x3 - 1)) (x2.length : Int))) * 53)))) (wrap64 (Int.tdiv (wrap64 ((wrap64 ((wrap64 ((wrap64 ((wrap64 (rd x2 (Int.tmod (wrap64 (x3 - 1)) (x2.length : Int)))) * 131)) + (wrap64 ((wrap64 (rd x2 (Int.tmod (wrap64 ((wrap64 ((wrap64 (x3 - 1)) * 7)) + 3)) (x2.length : Int)))) * 1117)))) + (wrap64 ((wrap64 (x3 - 1)) * 29)))) + (wrap64 ((wrap64 (Int.tdiv (wrap64 (x3 - 1)) (x2.length : Int))) * 53)))) 64))) x1, x3))) else (none)) else (none)) else (none)) else (none))))
def spec_l20Rd_pick.f (k : Nat) (s0_0 : List Int) (s0_1 : Int) (a1 : Int) : Option (Int × Int) := if a1 < 1 then (spec_l20Rd_pick.j0 k a1 true s0_0 (wrap64 (s0_1 + 1))) else (spec_l20Rd_pick.j0 k a1 ((s0_0.length : Int) == 0) s0_0 (wrap64 (s0_1 + 1)))
abbrev spec_l20Rd_pick.M (k : Nat) : Prop := (∀ y0 y1 y2 y3, LeO (spec_l20Rd_pick.j0 k y0 y1 y2 y3) (spec_l20Rd_pick.j0 (k + 1) y0 y1 y2 y3))
theorem spec_l20Rd_pick.mono_t : ∀ k, spec_l20Rd_pick.M k → spec_l20Rd_pick.M (k + 1) ∧ ∀ a0 a1 a2, LeO (spec_l20Rd_pick.f k a0 a1 a2) (spec_l20Rd_pick.f (k + 1) a0 a1 a2) := by
  rintro k ih0
  refine ⟨?_, ?_⟩ <;> (try unfold spec_l20Rd_pick.M) <;> intros <;> (first | unfold spec_l20Rd_pick.j0 | unfold spec_l20Rd_pick.f) <;> repeat' (with_reducible first | exact ih0 _ _ _ _ | exact LeO.refl _ | exact LeO.none _ | refine LeO.ite ?_ ?_ | refine LeO.bind ?_ fun _ => ?_)
theorem spec_l20Rd_pick.mono_l : ∀ k, spec_l20Rd_pick.M k
 | 0 => fun _ _ _ _ r h => by simp [spec_l20Rd_pick.j0] at h
 | k + 1 => (spec_l20Rd_pick.mono_t k (spec_l20Rd_pick.mono_l k)).1
theorem spec_l20Rd_pick.mono a0 a1 a2 k : LeO (spec_l20Rd_pick.f k a0 a1 a2) (spec_l20Rd_pick.f (k + 1) a0 a1 a2) := (spec_l20Rd_pick.mono_t k (spec_l20Rd_pick.mono_l k)).2 a0 a1 a2
theorem spec_l20Rd_pick.calls (k : Nat) (g : Nat) (s0_0 : List Int) (s0_1 : Int) (a1 : Int) (r1 : Int) (r2 : Int) (w0 w : World) (hI : IsS131 w0 w g s0_0 s0_1) (hB : Below w0.heap.size w0 w) (H : spec_l20Rd_pick.f k s0_0 s0_1 a1 = some (r1, r2)) :
  Calls prog 82 #[.pointer (some ⟨g, 0, none⟩), .int .i64 a1] w fun e w' => e = .returned (.int .i64 r1) ∧ IsS131 w0 w' g s0_0 r2 ∧ Below w0.heap.size w0 w' ∧ KeepBut w w' g none := by
 have HI0 := sqa hI
 have HK := sqa (KeepBut.refl w g none)
 have HL := sqa hB.size
 clear hI
 have HW0 := sqa hB.size
 have HB := sqa hB
 clear hB
 unfold spec_l20Rd_pick.f at H
 have HC3 := sqa H
 clear H
 obtain ⟨ASz4_0, cSz4_0, HGz4, hgz4, HSz4_0⟩ := HI0.1
 have hcz4_0 := cellS131_0 HGz4
 have hcz4_1 := cellS131_1 HGz4
 have hfz4_1 := blk_frozen HGz4 1
 clear HGz4 hgz4
 go_enter func82, ntmps82
 go_upto_region 2 with (fail)
 repeat (go_quiet (fail); go_upto_region 2 with (fail))
 go_cut [24] (fun v24 wc => ∃ (kq : Nat) (x0 : Bool), v24 = .bool x0 ∧ Aside0 (spec_l20Rd_pick.j0 kq a1 x0 s0_0 (wrap64 (s0_1 + 1)) = some (r1, r2)) ∧ Aside0 (kq ≤ k) ∧ Aside0 (IsS131 w0 wc g s0_0 (wrap64 (s0_1 + 1))) ∧ Aside0 (KeepBut w wc g none) ∧ Aside0 (Below w0.heap.size w0 wc))
 case first =>
  have H := HC3.1
  clear HC3
  by_cases c5 : a1 < 1
  ·rw [if_pos c5] at H
   have c5b0 : decide (a1 < 1) = true := decide_eq_true c5
   clear c5
   (first | rw [c5b0] | (simp only [i64_w, i32_w]; rw [c5b0]) | skip)
   have H' := sqa H
   clear H
   go_wp2
   repeat (go_quiet (fail); try go_wp2)
   go_meet
   case rel => exact ⟨_, (true), Z1, H', ⟨Z11⟩, ⟨Z66 HI0⟩, ⟨Z67⟩, ⟨Z68 HI0⟩⟩
  rw [if_neg c5] at H
  have c5b0 : decide (a1 < 1) = false := decide_eq_false c5
  clear c5
  (first | rw [c5b0] | (simp only [i64_w, i32_w]; rw [c5b0]) | skip)
  have H' := sqa H
  clear H
  obtain ⟨ASz6_0, cSz6_0, HGz6, hgz6, HSz6_0⟩ := HI0.1
  have hcz6_0 := cellS131_0 HGz6
  have hcz6_1 := cellS131_1 HGz6
  have hfz6_1 := blk_frozen HGz6 1
  clear HGz6 hgz6
  go_wp2
  repeat (go_quiet (fail); try go_wp2)
  go_meet
  case rel => exact ⟨_, (((s0_0.length : Int) == 0)), Z1, H', ⟨Z11⟩, ⟨Z66 HI0⟩, ⟨Z67⟩, ⟨Z68 HI0⟩⟩
 case rest =>
  clear HC3
  obtain ⟨kq, x0, rfl, HA, HJ2, HI0, HK, HB⟩ := hcut
  cases kq with
  | zero => exact absurd HA.out (by simp [spec_l20Rd_pick.j0])
  | succ kj2 =>
   have H := HA.out
   clear HA
   simp only [spec_l20Rd_pick.j0] at H
   by_cases c7 : x0 = true
   ·subst c7
    rw [if_pos rfl] at H
    obtain ⟨rfl, rfl⟩ := sqO2 H
    go_wp2
    repeat (go_quiet (fail); try go_wp2)
    go_ret
    exact ⟨Z5, Z66 HI0, Z68 HI0, Z67⟩
   obtain rfl := sqb c7
   rw [if_neg sqF] at H
   by_cases c8 : (wrap64 ((wrap64 (s0_1 + 1)) - 1)) < (s0_0.length : Int)
   ·rw [if_pos c8] at H
    have c8b0 : decide ((wrap64 ((wrap64 (s0_1 + 1)) - 1)) < (s0_0.length : Int)) = true := decide_eq_true c8
    clear c8
    obtain ⟨ji9, hji9⟩ : ∃ j_ : Int, (wrap64 ((wrap64 (s0_1 + 1)) - 1)) = j_ := ⟨_, rfl⟩
    replace H : (if 0 ≤ (ji9) then (if a1 = 0 then (none) else (some (Int.tmod (wrap64 (rd s0_0 (ji9))) a1, (wrap64 (s0_1 + 1))))) else (none)) = some (r1, r2) := by first | (rw [hji9] at H; exact H) | (simp only [hji9] at H ⊢; exact H)
    (try rw [hji9] at c8b0)
    have hji9w : (IntKind.i64.wrap ((wrap64 (s0_1 + 1)) - 1)) = ji9 := (i64_w _).trans hji9
    obtain ⟨c10, H⟩ := sqI H
    have c0 : decide (0 ≤ (ji9)) = true := decide_eq_true c10
    clear c10
    by_cases c1 : a1 = 0
    ·rw [if_pos c1] at H
     exact absurd H (by simp)
    rw [if_neg c1] at H
    have c2 := sqe0 c1
    have c3 := sqn1 c1
    obtain ⟨rfl, rfl⟩ := sqO2 H
    obtain ⟨ASz0, cSz0, HGz0, hgz0, HSz0⟩ := HI0.1
    have hcz0 := cellS131_0 HGz0
    have hcz1 := cellS131_1 HGz0
    have hfz0 := blk_frozen HGz0 1
    clear HGz0 hgz0
    have p0 : 0 ≤ ((ji9) : Int) := of_decide_eq_true Z16
    have q0 : (ji9) < (s0_0.length : Int) := of_decide_eq_true Z16
    obtain ⟨ad0, e0, hx0⟩ := Kd.at_int HSz0 (ji9) p0 q0
    cases e0
    replace hx0 := pw_cell_below HB.1 hx0
    replace p0 := eq_true p0
    replace q0 := eq_true q0
    go_wp2
    repeat (go_quiet (fail); try go_wp2)
    go_ret
    exact ⟨by first | rfl | (simp [errP_none, errP_some] <;> rfl) | (simp only [← hji9]; first | rfl | (simp [errP_none, errP_some] <;> rfl)) | (simp [*, errP_none, errP_some] <;> rfl), Z66 HI0, Z68 HI0, Z67⟩
   rw [if_neg c8] at H
   have c8b0 : decide ((wrap64 ((wrap64 (s0_1 + 1)) - 1)) < (s0_0.length : Int)) = false := decide_eq_false c8
   clear c8
   by_cases c4 : (s0_0.length : Int) = 0
   ·rw [if_pos c4] at H
    exact absurd H (by simp)
   rw [if_neg c4] at H
   have c6 := sqe0 c4
   have c9 := sqn1 c4
   have c12 : ¬ (s0_0 = []) := fun h_ => c4 (by rw [h_]; rfl)
   obtain ⟨ji0, hji0⟩ : ∃ j_ : Int, (Int.tmod (wrap64 ((wrap64 (s0_1 + 1)) - 1)) (s0_0.length : Int)) = j_ := ⟨_, rfl⟩
   replace H : (if 0 ≤ (ji0) then (if (ji0) < (s0_0.length : Int) then (if 0 ≤ (Int.tmod (wrap64 ((wrap64 ((wrap64 ((wrap64 (s0_1 + 1)) - 1)) * 7)) + 3)) (s0_0.length : Int)) then (if (Int.tmod (wrap64 ((wrap64 ((wrap64 ((wrap64 (s0_1 + 1)) - 1)) * 7)) + 3)) (s0_0.length : Int)) < (s0_0.length : Int) then (if a1 = 0 then (none) else (some (Int.tmod (Go.bits .xor .i64 (wrap64 ((wrap64 ((wrap64 ((wrap64 ((wrap64 (rd s0_0 (ji0))) * 131)) + (wrap64 ((wrap64 (rd s0_0 (Int.tmod (wrap64 ((wrap64 ((wrap64 ((wrap64 (s0_1 + 1)) - 1)) * 7)) + 3)) (s0_0.length : Int)))) * 1117)))) + (wrap64 ((wrap64 ((wrap64 (s0_1 + 1)) - 1)) * 29)))) + (wrap64 ((wrap64 (Int.tdiv (wrap64 ((wrap64 (s0_1 + 1)) - 1)) (s0_0.length : Int))) * 53)))) (wrap64 (Int.tdiv (wrap64 ((wrap64 ((wrap64 ((wrap64 ((wrap64 (rd s0_0 (ji0))) * 131)) + (wrap64 ((wrap64 (rd s0_0 (Int.tmod (wrap64 ((wrap64 ((wrap64 ((wrap64 (s0_1 + 1)) - 1)) * 7)) + 3)) (s0_0.length : Int)))) * 1117)))) + (wrap64 ((wrap64 ((wrap64 (s0_1 + 1)) - 1)) * 29)))) + (wrap64 ((wrap64 (Int.tdiv (wrap64 ((wrap64 (s0_1 + 1)) - 1)) (s0_0.length : Int))) * 53)))) 64))) a1, (wrap64 (s0_1 + 1))))) else (none)) else (none)) else (none)) else (none)) = some (r1, r2) := by first | (rw [hji0] at H; exact H) | (simp only [hji0] at H ⊢; exact H)
   obtain ⟨c15, H⟩ := sqI H
   have c17 : decide (0 ≤ (ji0)) = true := decide_eq_true c15
   clear c15
   obtain ⟨c16, H⟩ := sqI H
   have c22 : decide ((ji0) < (s0_0.length : Int)) = true := decide_eq_true c16
   clear c16
   obtain ⟨ji1, hji1⟩ : ∃ j_ : Int, (Int.tmod (wrap64 ((wrap64 ((wrap64 ((wrap64 (s0_1 + 1)) - 1)) * 7)) + 3)) (s0_0.length : Int)) = j_ := ⟨_, rfl⟩
   replace H : (if 0 ≤ (ji1) then (if (ji1) < (s0_0.length : Int) then (if a1 = 0 then (none) else (some (Int.tmod (Go.bits .xor .i64 (wrap64 ((wrap64 ((wrap64 ((wrap64 ((wrap64 (rd s0_0 (ji0))) * 131)) + (wrap64 ((wrap64 (rd s0_0 (ji1))) * 1117)))) + (wrap64 ((wrap64 ((wrap64 (s0_1 + 1)) - 1)) * 29)))) + (wrap64 ((wrap64 (Int.tdiv (wrap64 ((wrap64 (s0_1 + 1)) - 1)) (s0_0.length : Int))) * 53)))) (wrap64 (Int.tdiv (wrap64 ((wrap64 ((wrap64 ((wrap64 ((wrap64 (rd s0_0 (ji0))) * 131)) + (wrap64 ((wrap64 (rd s0_0 (ji1))) * 1117)))) + (wrap64 ((wrap64 ((wrap64 (s0_1 + 1)) - 1)) * 29)))) + (wrap64 ((wrap64 (Int.tdiv (wrap64 ((wrap64 (s0_1 + 1)) - 1)) (s0_0.length : Int))) * 53)))) 64))) a1, (wrap64 (s0_1 + 1))))) else (none)) else (none)) = some (r1, r2) := by first | (rw [hji1] at H; exact H) | (simp only [hji1] at H ⊢; exact H)
   obtain ⟨c18, H⟩ := sqI H
   have c24 : decide (0 ≤ (ji1)) = true := decide_eq_true c18
   clear c18
   obtain ⟨c19, H⟩ := sqI H
   have c26 : decide ((ji1) < (s0_0.length : Int)) = true := decide_eq_true c19
   clear c19
   by_cases c20 : a1 = 0
   ·rw [if_pos c20] at H
    exact absurd H (by simp)
   rw [if_neg c20] at H
   have c27 := sqe0 c20
   have c28 := sqn1 c20
   obtain ⟨rfl, rfl⟩ := sqO2 H
   obtain ⟨ASz1, cSz1, HGz1, hgz1, HSz1⟩ := HI0.1
   have hcz2 := cellS131_0 HGz1
   have hcz3 := cellS131_1 HGz1
   have hfz1 := blk_frozen HGz1 1
   clear HGz1 hgz1
   have p1 : 0 ≤ ((ji0) : Int) := of_decide_eq_true Z16
   have q1 : (ji0) < (s0_0.length : Int) := of_decide_eq_true Z16
   obtain ⟨ad1, e1, hx1⟩ := Kd.at_int HSz1 (ji0) p1 q1
   cases e1
   replace hx1 := pw_cell_below HB.1 hx1
   replace p1 := eq_true p1
   replace q1 := eq_true q1
   have p2 : 0 ≤ ((ji1) : Int) := of_decide_eq_true Z16
   have q2 : (ji1) < (s0_0.length : Int) := of_decide_eq_true Z16
   obtain ⟨ad2, e2, hx2⟩ := Kd.at_int HSz1 (ji1) p2 q2
   obtain rfl : ad1 = ad2 := (by injection e2)
   replace hx2 := pw_cell_below HB.1 hx2
   replace p2 := eq_true p2
   replace q2 := eq_true q2
   go_wp2
   repeat (go_quiet (fail); try go_wp2)
   go_ret
   exact ⟨by first | rfl | (simp [errP_none, errP_some] <;> rfl) | (simp only [← hji0, ← hji1]; first | rfl | (simp [errP_none, errP_some] <;> rfl)) | (simp [*, errP_none, errP_some] <;> rfl), Z66 HI0, Z68 HI0, Z67⟩

/-! ### spec_l20Rd_odd: function 74 -/
def spec_l20Rd_odd.f (k : Nat) (s0_0 : List Int) (s0_1 : Int) (a1 : Int) : Option (Bool × Int) := if a1 > 0 then ((spec_l20Rd_pick.f k s0_0 s0_1 a1).bind fun bt0 => (some ((bt0.1 == (wrap64 (a1 - 1))), bt0.2))) else (some (false, s0_1))
theorem spec_l20Rd_odd.mono : ∀ a0 a1 a2 k, LeO (spec_l20Rd_odd.f k a0 a1 a2) (spec_l20Rd_odd.f (k + 1) a0 a1 a2) := by
 intro a0 a1 a2 k
 unfold spec_l20Rd_odd.f
 repeat' (with_reducible first | exact spec_l20Rd_pick.mono _ _ _ _ | exact LeO.refl _ | exact LeO.none _ | refine LeO.ite ?_ ?_ | refine LeO.bind ?_ fun _ => ?_)
theorem spec_l20Rd_odd.calls (k : Nat) (g : Nat) (s0_0 : List Int) (s0_1 : Int) (a1 : Int) (r1 : Bool) (r2 : Int) (w0 w : World) (hI : IsS131 w0 w g s0_0 s0_1) (hB : Below w0.heap.size w0 w) (H : spec_l20Rd_odd.f k s0_0 s0_1 a1 = some (r1, r2)) :
  Calls prog 74 #[.pointer (some ⟨g, 0, none⟩), .int .i64 a1] w fun e w' => e = .returned (.bool r1) ∧ IsS131 w0 w' g s0_0 r2 ∧ Below w0.heap.size w0 w' ∧ KeepBut w w' g none := by
 have HI0 := sqa hI
 have HK := sqa (KeepBut.refl w g none)
 have HL := sqa hB.size
 clear hI
 have HW0 := sqa hB.size
 have HB := sqa hB
 clear hB
 unfold spec_l20Rd_odd.f at H
 by_cases c3 : a1 > 0
 ·rw [if_pos c3] at H
  have c3b0 : decide (0 < a1) = true := decide_eq_true c3
  clear c3
  obtain ⟨⟨t0, t1⟩, A4, H⟩ := sqD H
  try dsimp only at H
  obtain ⟨rfl, rfl⟩ := sqO2 H
  go_enter func74, ntmps74
  go_wp2_with (first | (go_at_call 82; (with_reducible refine (spec_l20Rd_pick.calls k g s0_0 s0_1 a1 t0 t1 w0 _ ?side1 ?side2 A4.1).mono ?_); (case side1 => exact Z66 HI0); (case side2 => exact Z68 HI0); rintro e w5 ⟨rfl, hi, hb, hk⟩; replace HK := sqa (KeepBut.trans Z67 hk (.inl rfl)); replace HB := sqa (hb); replace HI0 := sqa (hi)))
  go_ret
  exact ⟨Z5, Z66 HI0, Z68 HI0, Z67⟩
 rw [if_neg c3] at H
 have c3b0 : decide (0 < a1) = false := decide_eq_false c3
 clear c3
 obtain ⟨rfl, rfl⟩ := sqO2 H
 go_enter func74, ntmps74
 go_wp2
 go_ret
 exact ⟨Z5, Z66 HI0, Z68 HI0, Z67⟩

/-! ### spec_l20Dance: function 114 -/
def spec_l20Dance.l0 : Nat → Int → ByteArray → Int → List Int → Int → Option (ByteArray × Int)
 | 0, _, _, _, _, _ => none
 | k + 1, x2, x7, x8, x0, x1 => if x8 > 0 then ((some (([(⟨#[84]⟩ : ByteArray), (⟨#[84]⟩ : ByteArray), (⟨#[82]⟩ : ByteArray), (⟨#[116]⟩ : ByteArray), (⟨#[82]⟩ : ByteArray), (⟨#[84]⟩ : ByteArray)] : List ByteArray) : List ByteArray)).bind fun y0 => ((spec_l20Rd_pick.f k x0 x1 6).bind fun bt0 => (if 0 ≤ bt0.1 then (if bt0.1 < (y0.length : Int) then (if x7.size + (rdOf ByteArray.empty y0 bt0.1).size ≤ 9223372036854775807 then (spec_l20Dance.l0 k x2 (x7 ++ (rdOf ByteArray.empty y0 bt0.1)) (wrap64 (x8 - 1)) x0 bt0.2) else (none)) else (none)) else (none)))) else ((spec_l20Rd_odd.f k x0 x1 x2).bind fun bt1 => (if bt1.1 = true then ((some (([(⟨#[120]⟩ : ByteArray), (⟨#[114]⟩ : ByteArray), (⟨#[84, 84, 84, 84, 84, 84, 84, 84, 84, 84, 84, 84, 84, 84, 84, 84, 84, 84, 84, 84, 84, 84, 84, 84, 84, 84, 84, 84, 84, 84, 84, 84, 84, 84, 84, 84, 84, 84, 84, 84, 84]⟩ : ByteArray)] : List ByteArray) : List ByteArray)).bind fun y1 => ((spec_l20Rd_pick.f k x0 bt1.2 3).bind fun bt2 => (if 0 ≤ bt2.1 then (if bt2.1 < (y1.length : Int) then (if x7.size + (rdOf ByteArray.empty y1 bt2.1).size ≤ 9223372036854775807 then (some (x7 ++ (rdOf ByteArray.empty y1 bt2.1), bt2.2)) else (none)) else (none)) else (none)))) else (some (x7, bt1.2))))
def spec_l20Dance.f (k : Nat) (s0_0 : List Int) (s0_1 : Int) (a1 : Int) (a2 : Int) : Option (ByteArray × Int) := (spec_l20Rd_pick.f k s0_0 s0_1 (wrap64 (a1 + 1))).bind fun bt0 => (spec_l20Dance.l0 k a2 (⟨#[]⟩ : ByteArray) bt0.1 s0_0 bt0.2)
abbrev spec_l20Dance.M (k : Nat) : Prop := (∀ y0 y1 y2 y3 y4, LeO (spec_l20Dance.l0 k y0 y1 y2 y3 y4) (spec_l20Dance.l0 (k + 1) y0 y1 y2 y3 y4))
theorem spec_l20Dance.mono_t : ∀ k, spec_l20Dance.M k → spec_l20Dance.M (k + 1) ∧ ∀ a0 a1 a2 a3, LeO (spec_l20Dance.f k a0 a1 a2 a3) (spec_l20Dance.f (k + 1) a0 a1 a2 a3) := by
  rintro k ih0
  refine ⟨?_, ?_⟩ <;> (try unfold spec_l20Dance.M) <;> intros <;> (first | unfold spec_l20Dance.l0 | unfold spec_l20Dance.f) <;> repeat' (with_reducible first | exact ih0 _ _ _ _ _ | exact spec_l20Rd_odd.mono _ _ _ _ | exact spec_l20Rd_pick.mono _ _ _ _ | exact LeO.refl _ | exact LeO.none _ | refine LeO.ite ?_ ?_ | refine LeO.bind ?_ fun _ => ?_)
theorem spec_l20Dance.mono_l : ∀ k, spec_l20Dance.M k
 | 0 => fun _ _ _ _ _ r h => by simp [spec_l20Dance.l0] at h
 | k + 1 => (spec_l20Dance.mono_t k (spec_l20Dance.mono_l k)).1
theorem spec_l20Dance.mono a0 a1 a2 a3 k : LeO (spec_l20Dance.f k a0 a1 a2 a3) (spec_l20Dance.f (k + 1) a0 a1 a2 a3) := (spec_l20Dance.mono_t k (spec_l20Dance.mono_l k)).2 a0 a1 a2 a3
theorem spec_l20Dance.calls (k : Nat) (g : Nat) (s0_0 : List Int) (s0_1 : Int) (a1 : Int) (a2 : Int) (r1 : ByteArray) (r2 : Int) (w0 w : World) (hI : IsS131 w0 w g s0_0 s0_1) (hB : Below w0.heap.size w0 w) (H : spec_l20Dance.f k s0_0 s0_1 a1 a2 = some (r1, r2)) :
  Calls prog 114 #[.pointer (some ⟨g, 0, none⟩), .int .i64 a1, .int .i64 a2] w fun e w' => e = .returned (.string r1) ∧ IsS131 w0 w' g s0_0 r2 ∧ Below w0.heap.size w0 w' ∧ KeepBut w w' g none := by
 have HI0 := sqa hI
 have HK := sqa (KeepBut.refl w g none)
 have HL := sqa hB.size
 clear hI
 have HW0 := sqa hB.size
 have HB := sqa hB
 clear hB
 unfold spec_l20Dance.f at H
 obtain ⟨⟨t0, t1⟩, A4, H⟩ := sqD H
 try dsimp only at H
 have H' := sqa H
 clear H
 go_enter func114, ntmps114
 go_wp2_with (first | ((with_reducible refine sqc 82 rfl ?_); refine sqC (some 12) func82 #[.pointer (some ⟨g, 0, none⟩), .int .i64 (wrap64 (a1 + 1))] ?_; (with_reducible refine (spec_l20Rd_pick.calls k g s0_0 s0_1 (wrap64 (a1 + 1)) t0 t1 w0 _ ?side1 ?side2 A4.1).mono ?_); (case side1 => exact Z66 HI0); (case side2 => exact Z68 HI0); rintro e w5 ⟨rfl, hi, hb, hk⟩; refine ⟨_, rfl, ?_⟩; replace HK := sqa (KeepBut.trans Z67 hk (.inl rfl)); replace HB := sqa (hb); replace HI0 := sqa (hi)))
 go_loopg [7, 8] k (fun kq v7 v8 w' => ∃ (x7_1 : ByteArray) (x8_1 : Int) (x1001_1 : Int), v7 = .string x7_1 ∧ v8 = .int .i64 x8_1 ∧ Aside0 (spec_l20Dance.l0 kq a2 x7_1 x8_1 s0_0 x1001_1 = some (r1, r2)) ∧ Aside0 (kq ≤ k) ∧ Aside0 (IsS131 w0 w' g s0_0 x1001_1) ∧ Aside0 (KeepBut w w' g none) ∧ Aside0 (Below w0.heap.size w0 w'))
 case atStart => exact ⟨((⟨#[]⟩ : ByteArray)), (t0), (t1), Z1, Z1, H', ⟨Nat.le_refl _⟩, ⟨Z66 HI0⟩, ⟨Z67⟩, ⟨Z68 HI0⟩⟩
 case round =>
  clear H'
  obtain ⟨x7_1, x8_1, x1001_1, rfl, rfl, HA, HK1, HI0, HK, HB⟩ := hrel
  cases gk with
  | zero => exact absurd HA.out (by simp [spec_l20Dance.l0])
  | succ k1 =>
   have H := HA.out
   clear HA
   simp only [spec_l20Dance.l0] at H
   by_cases c6 : x8_1 > 0
   ·rw [if_pos c6] at H
    have c6b0 : decide (0 < x8_1) = true := decide_eq_true c6
    clear c6
    obtain ⟨y0, hy0⟩ : ∃ y_ : List ByteArray, y_ = (([(⟨#[84]⟩ : ByteArray), (⟨#[84]⟩ : ByteArray), (⟨#[82]⟩ : ByteArray), (⟨#[116]⟩ : ByteArray), (⟨#[82]⟩ : ByteArray), (⟨#[84]⟩ : ByteArray)] : List ByteArray)) := ⟨_, rfl⟩
    replace H : ((spec_l20Rd_pick.f k1 s0_0 x1001_1 6).bind fun bt0 => (if 0 ≤ bt0.1 then (if bt0.1 < (y0.length : Int) then (if x7_1.size + (rdOf ByteArray.empty y0 bt0.1).size ≤ 9223372036854775807 then (spec_l20Dance.l0 k1 a2 (x7_1 ++ (rdOf ByteArray.empty y0 bt0.1)) (wrap64 (x8_1 - 1)) s0_0 bt0.2) else (none)) else (none)) else (none))) = some (r1, r2) := sqW hy0 H
    have Ny0 := sqa hy0
    clear hy0
    obtain ⟨⟨t2, t3⟩, A7, H⟩ := sqD H
    try dsimp only at H
    obtain ⟨c8, H⟩ := sqI H
    have c8b0 : decide (0 ≤ t2) = true := decide_eq_true c8
    clear c8
    obtain ⟨c9, H⟩ := sqI H
    have c9b0 : decide (t2 < (y0.length : Int)) = true := decide_eq_true c9
    clear c9
    obtain ⟨c10, H⟩ := sqI H
    have c0 := eq_true c10
    have c1 : decide (x7_1.size + (rdOf ByteArray.empty y0 t2).size ≤ 9223372036854775807) = true := decide_eq_true c10
    try have c2 : (9223372036854775807 < x7_1.size + (rdOf ByteArray.empty y0 t2).size) = False := eq_false (Nat.not_lt.2 c10)
    have H' := sqa H
    clear H
    go_wp2_with (first | ((with_reducible refine sqd 18 rfl ?_); refine Kd.R_lit Kd.string _ 9 ?hg (N := 18) ?hd (xs := ([(⟨#[84]⟩ : ByteArray), (⟨#[84]⟩ : ByteArray), (⟨#[82]⟩ : ByteArray), (⟨#[116]⟩ : ByteArray), (⟨#[82]⟩ : ByteArray), (⟨#[84]⟩ : ByteArray)] : List ByteArray)) (inner := [.string (⟨#[84]⟩ : ByteArray), .string (⟨#[84]⟩ : ByteArray), .string (⟨#[82]⟩ : ByteArray), .string (⟨#[116]⟩ : ByteArray), .string (⟨#[82]⟩ : ByteArray), .string (⟨#[84]⟩ : ByteArray)]) (ok := fun _ => True) (okp := fun _ => True) ?hr ?hp (fun _ hk => hk) trivial (Below.refl _ _) (Nat.le_refl _) (by simp) ?_; (case hd => rfl); (case hg => rfl); (case hr => exact Z17); (case hp => exact (Reps.one (show Kd.M Kd.string _ _ _ (⟨#[84]⟩ : ByteArray) [.string (⟨#[84]⟩ : ByteArray)] from rfl) (Reps.one (show Kd.M Kd.string _ _ _ (⟨#[84]⟩ : ByteArray) [.string (⟨#[84]⟩ : ByteArray)] from rfl) (Reps.one (show Kd.M Kd.string _ _ _ (⟨#[82]⟩ : ByteArray) [.string (⟨#[82]⟩ : ByteArray)] from rfl) (Reps.one (show Kd.M Kd.string _ _ _ (⟨#[116]⟩ : ByteArray) [.string (⟨#[116]⟩ : ByteArray)] from rfl) (Reps.one (show Kd.M Kd.string _ _ _ (⟨#[82]⟩ : ByteArray) [.string (⟨#[82]⟩ : ByteArray)] from rfl) (Reps.one (show Kd.M Kd.string _ _ _ (⟨#[84]⟩ : ByteArray) [.string (⟨#[84]⟩ : ByteArray)] from rfl) (Reps.none _ _)))))))); intro v0 w1 ho0 hb hg_ hnew_; clear hg_ hnew_; (first | rw [← Ny0.out] at ho0 | (simp only [Int.reduceToNat] at ho0; rw [← Ny0.out] at ho0)); have O0 := sqa (Kd.R_lower ho0 (keep_size (w := w) (g := g) (row := none) Z67)); replace HK := sqa (KeepBut.trans Z67 (KeepBut.of_below hb g none) (.inl rfl)); replace HB := sqa (below_step (Z68 HI0) hb); replace HI0 := sqa (IsS131.below (Z66 HI0) hb); clear hb ho0) | ((with_reducible refine sqc 82 rfl ?_); refine sqC (some 20) func82 #[.pointer (some ⟨g, 0, none⟩), .int .i64 6] ?_; (with_reducible refine (spec_l20Rd_pick.calls k1 g s0_0 x1001_1 6 t2 t3 w0 _ ?side1 ?side2 A7.1).mono ?_); (case side1 => exact Z66 HI0); (case side2 => exact Z68 HI0); rintro e w2 ⟨rfl, hi, hb, hk⟩; refine ⟨_, rfl, ?_⟩; replace O0 := sqa (Kd.R_mono (Kd.R_keep (IsS131.apart (show IsS131 w0 _ g s0_0 x1001_1 from by repeat (first | (with_reducible first | exact HI0.1 | apply IsS131.alloc | apply IsS131.drewN | apply IsS131.drew | apply IsS131.set_1) | exact HI0.1)) (sqR O0) (by decide)) hk (fun _ h => h.2)) (fun _ h => h.1)); replace HK := sqa (KeepBut.trans Z67 hk (.inl rfl)); replace HB := sqa (hb); replace HI0 := sqa (hi); obtain ⟨Ao0, co0, eo0⟩ := Kd.R_slice O0.1; subst eo0; have p0 : 0 ≤ (t2 : Int) := of_decide_eq_true Z16; have q0 : t2 < (y0.length : Int) := of_decide_eq_true Z16; obtain ⟨ad0, e0, hx0⟩ := Kd.at_string (Kd.R_reads' O0.1).2.2 t2 p0 q0; cases e0; replace p0 := eq_true p0; replace q0 := eq_true q0))
    go_roundg k1
    case measure => have := HK1.out; omega
    case rel => exact ⟨(x7_1 ++ (rdOf ByteArray.empty y0 t2)), (wrap64 (x8_1 - 1)), (t3), Z1, Z1, H', ⟨Z2 HK1⟩, ⟨Z66 HI0⟩, ⟨Z67⟩, ⟨Z68 HI0⟩⟩
   rw [if_neg c6] at H
   have c6b0 : decide (0 < x8_1) = false := decide_eq_false c6
   clear c6
   obtain ⟨⟨t4, t5⟩, A0, H⟩ := sqD H
   try dsimp only at H
   by_cases c3 : t4 = true
   ·subst c3
    rw [if_pos rfl] at H
    obtain ⟨y1, hy1⟩ : ∃ y_ : List ByteArray, y_ = (([(⟨#[120]⟩ : ByteArray), (⟨#[114]⟩ : ByteArray), (⟨#[84, 84, 84, 84, 84, 84, 84, 84, 84, 84, 84, 84, 84, 84, 84, 84, 84, 84, 84, 84, 84, 84, 84, 84, 84, 84, 84, 84, 84, 84, 84, 84, 84, 84, 84, 84, 84, 84, 84, 84, 84]⟩ : ByteArray)] : List ByteArray)) := ⟨_, rfl⟩
    replace H : ((spec_l20Rd_pick.f k1 s0_0 t5 3).bind fun bt1 => (if 0 ≤ bt1.1 then (if bt1.1 < (y1.length : Int) then (if x7_1.size + (rdOf ByteArray.empty y1 bt1.1).size ≤ 9223372036854775807 then (some (x7_1 ++ (rdOf ByteArray.empty y1 bt1.1), bt1.2)) else (none)) else (none)) else (none))) = some (r1, r2) := sqW hy1 H
    have Ny1 := sqa hy1
    clear hy1
    obtain ⟨⟨t6, t7⟩, A1, H⟩ := sqD H
    try dsimp only at H
    obtain ⟨c4, H⟩ := sqI H
    have c5 : decide (0 ≤ t6) = true := decide_eq_true c4
    clear c4
    obtain ⟨c7, H⟩ := sqI H
    have c11 : decide (t6 < (y1.length : Int)) = true := decide_eq_true c7
    clear c7
    obtain ⟨c20, H⟩ := sqI H
    have c12 := eq_true c20
    have c13 : decide (x7_1.size + (rdOf ByteArray.empty y1 t6).size ≤ 9223372036854775807) = true := decide_eq_true c20
    try have c14 : (9223372036854775807 < x7_1.size + (rdOf ByteArray.empty y1 t6).size) = False := eq_false (Nat.not_lt.2 c20)
    obtain ⟨rfl, rfl⟩ := sqO2 H
    go_wp2_with (first | ((with_reducible refine sqc 74 rfl ?_); refine sqC (some 26) func74 #[.pointer (some ⟨g, 0, none⟩), .int .i64 a2] ?_; (with_reducible refine (spec_l20Rd_odd.calls k1 g s0_0 x1001_1 a2 true t5 w0 _ ?side1 ?side2 A0.1).mono ?_); (case side1 => exact Z66 HI0); (case side2 => exact Z68 HI0); rintro e w3 ⟨rfl, hi, hb, hk⟩; refine ⟨_, rfl, ?_⟩; replace HK := sqa (KeepBut.trans Z67 hk (.inl rfl)); replace HB := sqa (hb); replace HI0 := sqa (hi)) | ((with_reducible refine sqd 28 rfl ?_); refine Kd.R_lit Kd.string _ 9 ?hg (N := 28) ?hd (xs := ([(⟨#[120]⟩ : ByteArray), (⟨#[114]⟩ : ByteArray), (⟨#[84, 84, 84, 84, 84, 84, 84, 84, 84, 84, 84, 84, 84, 84, 84, 84, 84, 84, 84, 84, 84, 84, 84, 84, 84, 84, 84, 84, 84, 84, 84, 84, 84, 84, 84, 84, 84, 84, 84, 84, 84]⟩ : ByteArray)] : List ByteArray)) (inner := [.string (⟨#[120]⟩ : ByteArray), .string (⟨#[114]⟩ : ByteArray), .string (⟨#[84, 84, 84, 84, 84, 84, 84, 84, 84, 84, 84, 84, 84, 84, 84, 84, 84, 84, 84, 84, 84, 84, 84, 84, 84, 84, 84, 84, 84, 84, 84, 84, 84, 84, 84, 84, 84, 84, 84, 84, 84]⟩ : ByteArray)]) (ok := fun _ => True) (okp := fun _ => True) ?hr ?hp (fun _ hk => hk) trivial (Below.refl _ _) (Nat.le_refl _) (by simp) ?_; (case hd => rfl); (case hg => rfl); (case hr => exact Z17); (case hp => exact (Reps.one (show Kd.M Kd.string _ _ _ (⟨#[120]⟩ : ByteArray) [.string (⟨#[120]⟩ : ByteArray)] from rfl) (Reps.one (show Kd.M Kd.string _ _ _ (⟨#[114]⟩ : ByteArray) [.string (⟨#[114]⟩ : ByteArray)] from rfl) (Reps.one (show Kd.M Kd.string _ _ _ (⟨#[84, 84, 84, 84, 84, 84, 84, 84, 84, 84, 84, 84, 84, 84, 84, 84, 84, 84, 84, 84, 84, 84, 84, 84, 84, 84, 84, 84, 84, 84, 84, 84, 84, 84, 84, 84, 84, 84, 84, 84, 84]⟩ : ByteArray) [.string (⟨#[84, 84, 84, 84, 84, 84, 84, 84, 84, 84, 84, 84, 84, 84, 84, 84, 84, 84, 84, 84, 84, 84, 84, 84, 84, 84, 84, 84, 84, 84, 84, 84, 84, 84, 84, 84, 84, 84, 84, 84, 84]⟩ : ByteArray)] from rfl) (Reps.none _ _))))); intro v1 w4 ho1 hb hg_ hnew_; clear hg_ hnew_; (first | rw [← Ny1.out] at ho1 | (simp only [Int.reduceToNat] at ho1; rw [← Ny1.out] at ho1)); have O1 := sqa (Kd.R_lower ho1 (keep_size (w := w) (g := g) (row := none) Z67)); replace HK := sqa (KeepBut.trans Z67 (KeepBut.of_below hb g none) (.inl rfl)); replace HB := sqa (below_step (Z68 HI0) hb); replace HI0 := sqa (IsS131.below (Z66 HI0) hb); clear hb ho1) | ((with_reducible refine sqc 82 rfl ?_); refine sqC (some 30) func82 #[.pointer (some ⟨g, 0, none⟩), .int .i64 3] ?_; (with_reducible refine (spec_l20Rd_pick.calls k1 g s0_0 t5 3 t6 t7 w0 _ ?side1 ?side2 A1.1).mono ?_); (case side1 => exact Z66 HI0); (case side2 => exact Z68 HI0); rintro e w6 ⟨rfl, hi, hb, hk⟩; refine ⟨_, rfl, ?_⟩; replace O1 := sqa (Kd.R_mono (Kd.R_keep (IsS131.apart (show IsS131 w0 _ g s0_0 t5 from by repeat (first | (with_reducible first | exact HI0.1 | apply IsS131.alloc | apply IsS131.drewN | apply IsS131.drew | apply IsS131.set_1) | exact HI0.1)) (sqR O1) (by decide)) hk (fun _ h => h.2)) (fun _ h => h.1)); replace HK := sqa (KeepBut.trans Z67 hk (.inl rfl)); replace HB := sqa (hb); replace HI0 := sqa (hi); obtain ⟨Ao1, co1, eo1⟩ := Kd.R_slice O1.1; subst eo1; have p1 : 0 ≤ (t6 : Int) := of_decide_eq_true Z16; have q1 : t6 < (y1.length : Int) := of_decide_eq_true Z16; obtain ⟨ad1, e1, hx1⟩ := Kd.at_string (Kd.R_reads' O1.1).2.2 t6 p1 q1; cases e1; replace p1 := eq_true p1; replace q1 := eq_true q1))
    go_ret
    exact ⟨Z5, Z66 HI0, Z68 HI0, Z67⟩
   obtain rfl := sqb c3
   rw [if_neg sqF] at H
   obtain ⟨rfl, rfl⟩ := sqO2 H
   go_wp2_with (first | ((with_reducible refine sqc 74 rfl ?_); refine sqC (some 26) func74 #[.pointer (some ⟨g, 0, none⟩), .int .i64 a2] ?_; (with_reducible refine (spec_l20Rd_odd.calls k1 g s0_0 x1001_1 a2 false t5 w0 _ ?side1 ?side2 A0.1).mono ?_); (case side1 => exact Z66 HI0); (case side2 => exact Z68 HI0); rintro e w7 ⟨rfl, hi, hb, hk⟩; refine ⟨_, rfl, ?_⟩; replace HK := sqa (KeepBut.trans Z67 hk (.inl rfl)); replace HB := sqa (hb); replace HI0 := sqa (hi)))
   go_ret
   exact ⟨Z5, Z66 HI0, Z68 HI0, Z67⟩

/-! ### spec_l20Fraction: function 113 -/
def spec_l20Fraction.j0 : Nat → Int → List Int → Int → Int → Int → Option (Int × Int × Int)
 | 0, _, _, _, _, _ => none
 | k + 1, x1, x0, x2, x3, x4 => (spec_l20Rd_odd.f k x0 x2 x1).bind fun bt0 => (if bt0.1 = true then ((some (([(⟨0, 0⟩ : S31), (⟨2, 4⟩ : S31), (⟨1, (-2)⟩ : S31), (⟨(-1), 0⟩ : S31), (⟨1000001, 1⟩ : S31)] : List (S31)) : List (S31))).bind fun y0 => ((spec_l20Rd_pick.f k x0 bt0.2 5).bind fun bt1 => (if 0 ≤ bt1.1 then (if bt1.1 < (y0.length : Int) then (some ((rd_T31 y0 bt1.1).f0, (rd_T31 y0 bt1.1).f1, bt1.2)) else (none)) else (none)))) else (some (x3, x4, bt0.2)))
def spec_l20Fraction.f (k : Nat) (s0_0 : List Int) (s0_1 : Int) (a1 : Int) : Option (Int × Int × Int) := (some (([4, 10, 50, 1000] : List Int) : List Int)).bind fun y0 => ((spec_l20Rd_pick.f k s0_0 s0_1 4).bind fun bt0 => (if 0 ≤ bt0.1 then (if bt0.1 < (y0.length : Int) then ((spec_l20Rd_pick.f k s0_0 bt0.2 (rd y0 bt0.1)).bind fun bt1 => ((spec_l20Rd_pick.f k s0_0 bt1.2 (rd y0 bt0.1)).bind fun bt2 => ((spec_l20Rd_pick.f k s0_0 bt2.2 (rd y0 bt0.1)).bind fun bt3 => ((spec_LowestOf.f k (wrap64 (bt1.1 - bt2.1)) bt3.1).bind fun bt4 => (if bt4.2.2 = true then (spec_l20Fraction.j0 k a1 s0_0 bt3.2 bt4.1 bt4.2.1) else (spec_l20Fraction.j0 k a1 s0_0 bt3.2 1 0)))))) else (none)) else (none)))
abbrev spec_l20Fraction.M (k : Nat) : Prop := (∀ y0 y1 y2 y3 y4, LeO (spec_l20Fraction.j0 k y0 y1 y2 y3 y4) (spec_l20Fraction.j0 (k + 1) y0 y1 y2 y3 y4))
theorem spec_l20Fraction.mono_t : ∀ k, spec_l20Fraction.M k → spec_l20Fraction.M (k + 1) ∧ ∀ a0 a1 a2, LeO (spec_l20Fraction.f k a0 a1 a2) (spec_l20Fraction.f (k + 1) a0 a1 a2) := by
  rintro k ih0
  refine ⟨?_, ?_⟩ <;> (try unfold spec_l20Fraction.M) <;> intros <;> (first | unfold spec_l20Fraction.j0 | unfold spec_l20Fraction.f) <;> repeat' (with_reducible first | exact ih0 _ _ _ _ _ | exact spec_LowestOf.mono _ _ _ | exact spec_l20Rd_odd.mono _ _ _ _ | exact spec_l20Rd_pick.mono _ _ _ _ | exact LeO.refl _ | exact LeO.none _ | refine LeO.ite ?_ ?_ | refine LeO.bind ?_ fun _ => ?_)
theorem spec_l20Fraction.mono_l : ∀ k, spec_l20Fraction.M k
 | 0 => fun _ _ _ _ _ r h => by simp [spec_l20Fraction.j0] at h
 | k + 1 => (spec_l20Fraction.mono_t k (spec_l20Fraction.mono_l k)).1
theorem spec_l20Fraction.mono a0 a1 a2 k : LeO (spec_l20Fraction.f k a0 a1 a2) (spec_l20Fraction.f (k + 1) a0 a1 a2) := (spec_l20Fraction.mono_t k (spec_l20Fraction.mono_l k)).2 a0 a1 a2
theorem spec_l20Fraction.calls (k : Nat) (g : Nat) (s0_0 : List Int) (s0_1 : Int) (a1 : Int) (r1 : Int) (r2 : Int) (r3 : Int) (w0 w : World) (hI : IsS131 w0 w g s0_0 s0_1) (hB : Below w0.heap.size w0 w) (H : spec_l20Fraction.f k s0_0 s0_1 a1 = some (r1, r2, r3)) :
  Calls prog 113 #[.pointer (some ⟨g, 0, none⟩), .int .i64 a1] w fun e w' => e = .returned (.agg #[.int .i64 r1, .int .i64 r2]) ∧ IsS131 w0 w' g s0_0 r3 ∧ Below w0.heap.size w0 w' ∧ KeepBut w w' g none := by
 have hu31 := underlying31
 have HI0 := sqa hI
 have HK := sqa (KeepBut.refl w g none)
 have HL := sqa hB.size
 clear hI
 have HW0 := sqa hB.size
 have HB := sqa hB
 clear hB
 unfold spec_l20Fraction.f at H
 obtain ⟨y0, hy0⟩ : ∃ y_ : List Int, y_ = (([4, 10, 50, 1000] : List Int)) := ⟨_, rfl⟩
 replace H : ((spec_l20Rd_pick.f k s0_0 s0_1 4).bind fun bt0 => (if 0 ≤ bt0.1 then (if bt0.1 < (y0.length : Int) then ((spec_l20Rd_pick.f k s0_0 bt0.2 (rd y0 bt0.1)).bind fun bt1 => ((spec_l20Rd_pick.f k s0_0 bt1.2 (rd y0 bt0.1)).bind fun bt2 => ((spec_l20Rd_pick.f k s0_0 bt2.2 (rd y0 bt0.1)).bind fun bt3 => ((spec_LowestOf.f k (wrap64 (bt1.1 - bt2.1)) bt3.1).bind fun bt4 => (if bt4.2.2 = true then (spec_l20Fraction.j0 k a1 s0_0 bt3.2 bt4.1 bt4.2.1) else (spec_l20Fraction.j0 k a1 s0_0 bt3.2 1 0)))))) else (none)) else (none))) = some (r1, r2, r3) := sqW hy0 H
 have Ny0 := sqa hy0
 clear hy0
 obtain ⟨⟨t0, t1⟩, A3, H⟩ := sqD H
 try dsimp only at H
 obtain ⟨c4, H⟩ := sqI H
 have c4b0 : decide (0 ≤ t0) = true := decide_eq_true c4
 clear c4
 obtain ⟨c5, H⟩ := sqI H
 have c5b0 : decide (t0 < (y0.length : Int)) = true := decide_eq_true c5
 clear c5
 obtain ⟨⟨t2, t3⟩, A6, H⟩ := sqD H
 try dsimp only at H
 obtain ⟨⟨t4, t5⟩, A7, H⟩ := sqD H
 try dsimp only at H
 obtain ⟨⟨t6, t7⟩, A8, H⟩ := sqD H
 try dsimp only at H
 obtain ⟨⟨t8, t9, t10⟩, A9, H⟩ := sqD H
 try dsimp only at H
 have HC0 := sqa H
 clear H
 go_enter func113, ntmps113
 go_upto_if 28 with (first | ((with_reducible refine sqd 4 rfl ?_); refine sqBox (N := 4) (cs := #[.int .i64 0, .int .i64 0]) (t := 31) ?_; intro g0 hg w1 B0 hb; replace HB := sqa (below_step (Z68 HI0) hb); have GW0 := sqa ((Z142 : w.heap.size ≤ g0)); have E0 := sqa ((Nat.le_trans HW0.out (Z142 : w.heap.size ≤ g0) : w0.heap.size ≤ g0)); replace HK := sqa (KeepBut.trans Z67 (KeepBut.of_below hb g none) (.inl rfl)); have N0 := sqa ((Z69 HI0 : g ≠ g0)); have N1 := sqa ((Z70 HI0 : g0 ≠ g)); replace HI0 := sqa (IsS131.below (Z66 HI0) hb); clear hb hg) | ((with_reducible refine sqd 8 rfl ?_); refine Kd.R_lit (Kd.int .i64) _ 3 ?hg (N := 8) ?hd (xs := ([4, 10, 50, 1000] : List Int)) (inner := [.int .i64 4, .int .i64 10, .int .i64 50, .int .i64 1000]) (ok := fun _ => True) (okp := fun _ => True) ?hr ?hp (fun _ hk => hk) trivial (Below.refl _ _) (Nat.le_refl _) (by simp) ?_; (case hd => rfl); (case hg => rfl); (case hr => exact Z17); (case hp => exact (Reps.one (show Kd.M (Kd.int .i64) _ _ _ 4 [.int .i64 4] from rfl) (Reps.one (show Kd.M (Kd.int .i64) _ _ _ 10 [.int .i64 10] from rfl) (Reps.one (show Kd.M (Kd.int .i64) _ _ _ 50 [.int .i64 50] from rfl) (Reps.one (show Kd.M (Kd.int .i64) _ _ _ 1000 [.int .i64 1000] from rfl) (Reps.none _ _)))))); intro v0 w2 ho0 hb hg_ hnew_; clear hg_ hnew_; (first | rw [← Ny0.out] at ho0 | (simp only [Int.reduceToNat] at ho0; rw [← Ny0.out] at ho0)); have O0 := sqa (Kd.R_lower ho0 (keep_size (w := w) (g := g) (row := none) (Z71 GW0))); replace B0 := sqT B0 hb; replace HK := sqa (KeepBut.trans (Z71 GW0) (KeepBut.of_below hb g none) (.inl rfl)); replace HB := sqa (below_step (Z72 HI0 E0) hb); replace HI0 := sqa (IsS131.below (Z73 HI0 N0) hb); clear hb ho0) | ((with_reducible refine sqc 82 rfl ?_); refine sqC (some 10) func82 #[.pointer (some ⟨g, 0, none⟩), .int .i64 4] ?_; (with_reducible refine (spec_l20Rd_pick.calls k g s0_0 s0_1 4 t0 t1 w0 _ ?side1 ?side2 A3.1).mono ?_); (case side1 => exact Z73 HI0 N0); (case side2 => exact Z72 HI0 E0); rintro e w3 ⟨rfl, hi, hb, hk⟩; refine ⟨_, rfl, ?_⟩; replace B0 := sqkb hk B0 N1; replace O0 := sqa (Kd.R_mono (Kd.R_keep (IsS131.apart (show IsS131 w0 _ g s0_0 s0_1 from by repeat (first | (with_reducible first | exact HI0.1 | apply IsS131.alloc | apply IsS131.drewN | apply IsS131.drew | apply IsS131.set_1 | refine IsS131.far ?_ N0.1 _) | exact HI0.1)) (sqR O0) (by decide)) hk (fun _ h => h.2)) (fun _ h => h.1)); replace HK := sqa (KeepBut.trans (Z71 GW0) hk (.inl rfl)); replace HB := sqa (hb); replace HI0 := sqa (hi); obtain ⟨Ao15, co15, eo0⟩ := Kd.R_slice O0.1; subst eo0; have p0 : 0 ≤ (t0 : Int) := of_decide_eq_true Z16; have q0 : t0 < (y0.length : Int) := of_decide_eq_true Z16; obtain ⟨ad0, e0, hx0⟩ := Kd.at_int (Kd.R_reads' O0.1).2.2 t0 p0 q0; cases e0; replace p0 := eq_true p0; replace q0 := eq_true q0) | ((with_reducible refine sqc 82 rfl ?_); refine sqC (some 16) func82 #[.pointer (some ⟨g, 0, none⟩), .int .i64 (rd y0 t0)] ?_; (with_reducible refine (spec_l20Rd_pick.calls k g s0_0 t1 (rd y0 t0) t2 t3 w0 _ ?side1 ?side2 A6.1).mono ?_); (case side1 => exact Z73 HI0 N0); (case side2 => exact Z72 HI0 E0); rintro e w4 ⟨rfl, hi, hb, hk⟩; refine ⟨_, rfl, ?_⟩; replace B0 := sqkb hk B0 N1; replace O0 := sqa (Kd.R_mono (Kd.R_keep (IsS131.apart (show IsS131 w0 _ g s0_0 t1 from by repeat (first | (with_reducible first | exact HI0.1 | apply IsS131.alloc | apply IsS131.drewN | apply IsS131.drew | apply IsS131.set_1 | refine IsS131.far ?_ N0.1 _) | exact HI0.1)) (sqR O0) (by decide)) hk (fun _ h => h.2)) (fun _ h => h.1)); replace HK := sqa (KeepBut.trans (Z71 GW0) hk (.inl rfl)); replace HB := sqa (hb); replace HI0 := sqa (hi)) | ((with_reducible refine sqc 82 rfl ?_); refine sqC (some 19) func82 #[.pointer (some ⟨g, 0, none⟩), .int .i64 (rd y0 t0)] ?_; (with_reducible refine (spec_l20Rd_pick.calls k g s0_0 t3 (rd y0 t0) t4 t5 w0 _ ?side1 ?side2 A7.1).mono ?_); (case side1 => exact Z73 HI0 N0); (case side2 => exact Z72 HI0 E0); rintro e w5 ⟨rfl, hi, hb, hk⟩; refine ⟨_, rfl, ?_⟩; replace B0 := sqkb hk B0 N1; replace O0 := sqa (Kd.R_mono (Kd.R_keep (IsS131.apart (show IsS131 w0 _ g s0_0 t3 from by repeat (first | (with_reducible first | exact HI0.1 | apply IsS131.alloc | apply IsS131.drewN | apply IsS131.drew | apply IsS131.set_1 | refine IsS131.far ?_ N0.1 _) | exact HI0.1)) (sqR O0) (by decide)) hk (fun _ h => h.2)) (fun _ h => h.1)); replace HK := sqa (KeepBut.trans (Z71 GW0) hk (.inl rfl)); replace HB := sqa (hb); replace HI0 := sqa (hi)) | ((with_reducible refine sqc 82 rfl ?_); refine sqC (some 23) func82 #[.pointer (some ⟨g, 0, none⟩), .int .i64 (rd y0 t0)] ?_; (with_reducible refine (spec_l20Rd_pick.calls k g s0_0 t5 (rd y0 t0) t6 t7 w0 _ ?side1 ?side2 A8.1).mono ?_); (case side1 => exact Z73 HI0 N0); (case side2 => exact Z72 HI0 E0); rintro e w6 ⟨rfl, hi, hb, hk⟩; refine ⟨_, rfl, ?_⟩; replace B0 := sqkb hk B0 N1; replace O0 := sqa (Kd.R_mono (Kd.R_keep (IsS131.apart (show IsS131 w0 _ g s0_0 t5 from by repeat (first | (with_reducible first | exact HI0.1 | apply IsS131.alloc | apply IsS131.drewN | apply IsS131.drew | apply IsS131.set_1 | refine IsS131.far ?_ N0.1 _) | exact HI0.1)) (sqR O0) (by decide)) hk (fun _ h => h.2)) (fun _ h => h.1)); replace HK := sqa (KeepBut.trans (Z71 GW0) hk (.inl rfl)); replace HB := sqa (hb); replace HI0 := sqa (hi)) | ((with_reducible refine sqc 136 rfl ?_); refine sqC (some 24) func136 #[.int .i64 (wrap64 (t2 - t4)), .int .i64 t6] ?_; (with_reducible refine (spec_LowestOf.calls k (wrap64 (t2 - t4)) t6 t8 t9 t10 _ A9.1).mono ?_); refine sqV fun w7 hb => ?_; replace O0 := sqU O0 hb; replace B0 := sqT B0 hb; replace HK := sqa (KeepBut.trans (Z71 GW0) (KeepBut.of_below hb g none) (.inl rfl)); replace HB := sqa (below_step (Z72 HI0 E0) hb); replace HI0 := sqa (IsS131.below (Z73 HI0 N0) hb)) | ((with_reducible refine sqd 6 rfl ?_); refine sqBox (N := 6) (cs := #[.int .i64 0, .int .i64 0]) (t := 31) ?_; intro g1 hg w8 B2 hb; replace O0 := sqU O0 hb; replace HB := sqa (below_step (Z72 HI0 E0) hb); have GW1 := sqa ((Z143 GW0 : w.heap.size ≤ g1)); have E1 := sqa ((Nat.le_trans HW0.out (Z143 GW0 : w.heap.size ≤ g1) : w0.heap.size ≤ g1)); replace HK := sqa (KeepBut.trans (Z71 GW0) (KeepBut.of_below hb g none) (.inl rfl)); obtain ⟨N2, N3⟩ := sqM hg B0; replace B0 := sqT B0 hb; have N4 := sqa ((by rw [hg]; exact Nat.ne_of_lt (IsS131.lt (show IsS131 w0 _ g s0_0 t7 from by repeat (first | (with_reducible first | exact HI0.1 | apply IsS131.alloc | apply IsS131.drewN | apply IsS131.drew | apply IsS131.set_1 | refine IsS131.far ?_ N0.1 _) | exact HI0.1))) : g ≠ g1)); have N5 := sqa ((by rw [hg]; exact Nat.ne_of_gt (IsS131.lt (show IsS131 w0 _ g s0_0 t7 from by repeat (first | (with_reducible first | exact HI0.1 | apply IsS131.alloc | apply IsS131.drewN | apply IsS131.drew | apply IsS131.set_1 | refine IsS131.far ?_ N0.1 _) | exact HI0.1))) : g1 ≠ g)); replace HI0 := sqa (IsS131.below (Z73 HI0 N0) hb); clear hb hg; have := N3.1; have := N2.1; have := N5.1; have := N4.1; obtain ⟨_, _, _, _⟩ := sqY2 B2))
 (try simp only [Act.put, List.setIfInBounds_toArray, List.set_cons_zero, List.set_cons_succ])
 go_cut [] (fun wc => ∃ (kq : Nat) (x0 : Int) (x1 : Int), Aside0 (spec_l20Fraction.j0 kq a1 s0_0 t7 x0 x1 = some (r1, r2, r3)) ∧ Aside0 (kq ≤ k) ∧ Aside0 (wc.heap[g0]? = some (.cells #[.int .i64 0, .int .i64 0] 31 (0, 0))) ∧ Aside0 (wc.heap[g1]? = some (.cells #[.int .i64 x0, .int .i64 x1] 31 (0, 0))) ∧ Aside0 (IsS131 w0 wc g s0_0 t7) ∧ Aside0 (KeepBut w wc g none) ∧ Aside0 (Below w0.heap.size w0 wc))
 case first =>
  have H := HC0.1
  clear HC0
  by_cases c0 : t10 = true
  ·subst c0
   rw [if_pos rfl] at H
   have H' := sqa H
   clear H
   go_wp2
   go_meet
   case rel => exact ⟨_, (t8), (t9), H', ⟨Z11⟩, ⟨Z9 N2 B0⟩, ⟨by refine sqPut (cs := #[.int .i64 t8, .int .i64 0]) ?_ 1; refine sqPut (cs := #[.int .i64 0, .int .i64 0]) ?_ 0; exact sqK B2⟩, ⟨Z74 HI0 N0 N4⟩, ⟨Z75 GW0 GW1⟩, ⟨Z76 HI0 E0 E1⟩⟩
  obtain rfl := sqb c0
  rw [if_neg sqF] at H
  have H' := sqa H
  clear H
  have := N3.1
  have := N2.1
  have := N5.1
  have := N4.1
  obtain ⟨_, _, _, _⟩ := sqY2 B2
  go_wp2
  go_meet
  case rel => exact ⟨_, (1), (0), H', ⟨Z11⟩, ⟨by refine sqFar ?_ N2; refine sqFar ?_ N2; refine sqFar ?_ N2; refine sqFar ?_ N2; exact sqK B0⟩, ⟨by refine sqPut (cs := #[.int .i64 1, .int .i64 t9]) ?_ 1; refine sqPut (cs := #[.int .i64 t8, .int .i64 t9]) ?_ 0; refine sqPut (cs := #[.int .i64 t8, .int .i64 0]) ?_ 1; refine sqPut (cs := #[.int .i64 0, .int .i64 0]) ?_ 0; exact sqK B2⟩, ⟨Z74 HI0 N0 N4⟩, ⟨Z75 GW0 GW1⟩, ⟨Z76 HI0 E0 E1⟩⟩
 case rest =>
  clear HC0
  obtain ⟨kq, x0, x1, HA, HJ9, B0, B2, HI0, HK, HB⟩ := hcut
  cases kq with
  | zero => exact absurd HA.out (by simp [spec_l20Fraction.j0])
  | succ kj9 =>
   have H := HA.out
   clear HA
   simp only [spec_l20Fraction.j0] at H
   obtain ⟨⟨t11, t12⟩, A0, H⟩ := sqD H
   try dsimp only at H
   by_cases c1 : t11 = true
   ·subst c1
    rw [if_pos rfl] at H
    obtain ⟨y1, hy1⟩ : ∃ y_ : List (S31), y_ = (([(⟨0, 0⟩ : S31), (⟨2, 4⟩ : S31), (⟨1, (-2)⟩ : S31), (⟨(-1), 0⟩ : S31), (⟨1000001, 1⟩ : S31)] : List (S31))) := ⟨_, rfl⟩
    replace H : ((spec_l20Rd_pick.f kj9 s0_0 t12 5).bind fun bt5 => (if 0 ≤ bt5.1 then (if bt5.1 < (y1.length : Int) then (some ((rd_T31 y1 bt5.1).f0, (rd_T31 y1 bt5.1).f1, bt5.2)) else (none)) else (none))) = some (r1, r2, r3) := sqW hy1 H
    have Ny1 := sqa hy1
    clear hy1
    obtain ⟨⟨t13, t14⟩, A1, H⟩ := sqD H
    try dsimp only at H
    obtain ⟨c3, H⟩ := sqI H
    have c6 : decide (0 ≤ t13) = true := decide_eq_true c3
    clear c3
    obtain ⟨c7, H⟩ := sqI H
    have c8 : decide (t13 < (y1.length : Int)) = true := decide_eq_true c7
    clear c7
    obtain ⟨rfl, rfl, rfl⟩ := sqO3 H
    go_wp2_with (first | ((with_reducible refine sqc 74 rfl ?_); refine sqC (some 32) func74 #[.pointer (some ⟨g, 0, none⟩), .int .i64 a1] ?_; (with_reducible refine (spec_l20Rd_odd.calls kj9 g s0_0 t7 a1 true t12 w0 _ ?side1 ?side2 A0.1).mono ?_); (case side1 => exact Z74 HI0 N0 N4); (case side2 => exact Z76 HI0 E0 E1); rintro e w9 ⟨rfl, hi, hb, hk⟩; refine ⟨_, rfl, ?_⟩; replace B0 := sqkb hk B0 N1; replace B2 := sqkb hk B2 N5; replace HK := sqa (KeepBut.trans (Z75 GW0 GW1) hk (.inl rfl)); replace HB := sqa (hb); replace HI0 := sqa (hi)) | ((with_reducible refine sqd 38 rfl ?_); refine Kd.R_lit k31 _ 31 ?hg (N := 38) ?hd (xs := ([(⟨0, 0⟩ : S31), (⟨2, 4⟩ : S31), (⟨1, (-2)⟩ : S31), (⟨(-1), 0⟩ : S31), (⟨1000001, 1⟩ : S31)] : List (S31))) (inner := [.int .i64 0, .int .i64 0, .int .i64 2, .int .i64 4, .int .i64 1, .int .i64 (-2), .int .i64 (-1), .int .i64 0, .int .i64 1000001, .int .i64 1]) (ok := fun _ => True) (okp := fun _ => True) ?hr ?hp (fun _ hk => hk) trivial (Below.refl _ _) (Nat.le_refl _) (by simp) ?_; (case hd => rfl); (case hg => rfl); (case hr => exact Z17); (case hp => exact (Reps.c2 (show Kd.M k31 _ _ _ (⟨0, 0⟩ : S31) [.int .i64 0, .int .i64 0] from (k31_mkM _ _ _ (⟨0, 0⟩ : S31) )) (Reps.c2 (show Kd.M k31 _ _ _ (⟨2, 4⟩ : S31) [.int .i64 2, .int .i64 4] from (k31_mkM _ _ _ (⟨2, 4⟩ : S31) )) (Reps.c2 (show Kd.M k31 _ _ _ (⟨1, (-2)⟩ : S31) [.int .i64 1, .int .i64 (-2)] from (k31_mkM _ _ _ (⟨1, (-2)⟩ : S31) )) (Reps.c2 (show Kd.M k31 _ _ _ (⟨(-1), 0⟩ : S31) [.int .i64 (-1), .int .i64 0] from (k31_mkM _ _ _ (⟨(-1), 0⟩ : S31) )) (Reps.c2 (show Kd.M k31 _ _ _ (⟨1000001, 1⟩ : S31) [.int .i64 1000001, .int .i64 1] from (k31_mkM _ _ _ (⟨1000001, 1⟩ : S31) )) (Reps.none _ _))))))); intro v1 w34 ho1 hb hg_ hnew_; clear hg_ hnew_; (first | rw [← Ny1.out] at ho1 | (simp only [Int.reduceToNat] at ho1; rw [← Ny1.out] at ho1)); have O1 := sqa (Kd.R_lower (Kd.R_newB (Kd.R_newB ho1 (sqK B0)) (sqK B2)) (keep_size (w := w) (g := g) (row := none) (Z75 GW0 GW1))); replace B0 := sqT B0 hb; replace B2 := sqT B2 hb; replace HK := sqa (KeepBut.trans (Z75 GW0 GW1) (KeepBut.of_below hb g none) (.inl rfl)); replace HB := sqa (below_step (Z76 HI0 E0 E1) hb); replace HI0 := sqa (IsS131.below (Z74 HI0 N0 N4) hb); clear hb ho1) | ((with_reducible refine sqc 82 rfl ?_); refine sqC (some 40) func82 #[.pointer (some ⟨g, 0, none⟩), .int .i64 5] ?_; (with_reducible refine (spec_l20Rd_pick.calls kj9 g s0_0 t12 5 t13 t14 w0 _ ?side1 ?side2 A1.1).mono ?_); (case side1 => exact Z74 HI0 N0 N4); (case side2 => exact Z76 HI0 E0 E1); rintro e w36 ⟨rfl, hi, hb, hk⟩; refine ⟨_, rfl, ?_⟩; replace B0 := sqkb hk B0 N1; replace B2 := sqkb hk B2 N5; replace O1 := sqa (Kd.R_mono (Kd.R_keep (IsS131.apart (show IsS131 w0 _ g s0_0 t12 from by repeat (first | (with_reducible first | exact HI0.1 | apply IsS131.alloc | apply IsS131.drewN | apply IsS131.drew | apply IsS131.set_1 | refine IsS131.far ?_ N0.1 _ | refine IsS131.far ?_ N4.1 _) | exact HI0.1)) (sqR O1) (by decide)) hk (fun _ h => h.2)) (fun _ h => h.1)); replace HK := sqa (KeepBut.trans (Z75 GW0 GW1) hk (.inl rfl)); replace HB := sqa (hb); replace HI0 := sqa (hi); obtain ⟨Ao0, co0, eo1⟩ := Kd.R_slice O1.1; subst eo1; have p1 : 0 ≤ (t13 : Int) := of_decide_eq_true Z16; have q1 : t13 < (y1.length : Int) := of_decide_eq_true Z16; obtain ⟨ad1, e1, hx1, hx2⟩ := at_T31 (Kd.R_reads' O1.1).2.2 t13 p1 q1; cases e1; replace p1 := eq_true p1; replace q1 := eq_true q1; have := N2.1; have := N3.1; have := N1.1; have := N0.1; obtain ⟨_, _, _, _⟩ := sqY2 B0))
    refine sqEr g0 31 #[.int .i64 ((rd_T31 y1 t13).f0), .int .i64 ((rd_T31 y1 t13).f1)] (by refine sqPut (cs := #[.int .i64 ((rd_T31 y1 t13).f0), .int .i64 0]) ?_ 1; refine sqPut (cs := #[.int .i64 0, .int .i64 0]) ?_ 0; exact sqK B0) underlying31 ?_
    exact ⟨Z5, Z74 HI0 N0 N4, Z76 HI0 E0 E1, Z75 GW0 GW1⟩
   obtain rfl := sqb c1
   rw [if_neg sqF] at H
   obtain ⟨rfl, rfl, rfl⟩ := sqO3 H
   go_wp2_with (first | ((with_reducible refine sqc 74 rfl ?_); refine sqC (some 32) func74 #[.pointer (some ⟨g, 0, none⟩), .int .i64 a1] ?_; (with_reducible refine (spec_l20Rd_odd.calls kj9 g s0_0 t7 a1 false t12 w0 _ ?side1 ?side2 A0.1).mono ?_); (case side1 => exact Z74 HI0 N0 N4); (case side2 => exact Z76 HI0 E0 E1); rintro e w41 ⟨rfl, hi, hb, hk⟩; refine ⟨_, rfl, ?_⟩; replace B0 := sqkb hk B0 N1; replace B2 := sqkb hk B2 N5; replace HK := sqa (KeepBut.trans (Z75 GW0 GW1) hk (.inl rfl)); replace HB := sqa (hb); replace HI0 := sqa (hi); have := N3.1; have := N2.1; have := N5.1; have := N4.1; obtain ⟨_, _, _, _⟩ := sqY2 B2; have := N1.1; have := N0.1; obtain ⟨_, _, _, _⟩ := sqY2 B0))
   refine sqEr g0 31 #[.int .i64 x0, .int .i64 x1] (by refine sqPut (cs := #[.int .i64 x0, .int .i64 0]) ?_ 1; refine sqPut (cs := #[.int .i64 0, .int .i64 0]) ?_ 0; exact sqK B0) underlying31 ?_
   exact ⟨Z5, Z74 HI0 N0 N4, Z76 HI0 E0 E1, Z75 GW0 GW1⟩
/-! ### spec_l20Tied: function 115 -/
def spec_l20Tied.f (k : Nat) (s0_0 : List Int) (s0_1 : Int) : Option (Int × Int × Int) := (spec_l20Rd_odd.f k s0_0 s0_1 9).bind fun bt0 => (if bt0.1 = true then ((spec_l20Fraction.f k s0_0 bt0.2 3).bind fun bt1 => (some (bt1.1, bt1.2.1, bt1.2.2))) else ((spec_l20Rd_pick.f k s0_0 bt0.2 13).bind fun bt2 => ((spec_l20Rd_pick.f k s0_0 bt2.2 13).bind fun bt3 => ((spec_l20Rd_pick.f k s0_0 bt3.2 13).bind fun bt4 => ((spec_LowestOf.f k (wrap64 (bt2.1 - bt3.1)) bt4.1).bind fun bt5 => (if bt5.2.2 = true then (some (bt5.1, bt5.2.1, bt4.2)) else (some (1, 0, bt4.2))))))))
theorem spec_l20Tied.mono : ∀ a0 a1 k, LeO (spec_l20Tied.f k a0 a1) (spec_l20Tied.f (k + 1) a0 a1) := by
 intro a0 a1 k
 unfold spec_l20Tied.f
 repeat' (with_reducible first | exact spec_LowestOf.mono _ _ _ | exact spec_l20Fraction.mono _ _ _ _ | exact spec_l20Rd_odd.mono _ _ _ _ | exact spec_l20Rd_pick.mono _ _ _ _ | exact LeO.refl _ | exact LeO.none _ | refine LeO.ite ?_ ?_ | refine LeO.bind ?_ fun _ => ?_)
theorem spec_l20Tied.calls (k : Nat) (g : Nat) (s0_0 : List Int) (s0_1 : Int) (r1 : Int) (r2 : Int) (r3 : Int) (w0 w : World) (hI : IsS131 w0 w g s0_0 s0_1) (hB : Below w0.heap.size w0 w) (H : spec_l20Tied.f k s0_0 s0_1 = some (r1, r2, r3)) :
  Calls prog 115 #[.pointer (some ⟨g, 0, none⟩)] w fun e w' => e = .returned (.agg #[.int .i64 r1, .int .i64 r2]) ∧ IsS131 w0 w' g s0_0 r3 ∧ Below w0.heap.size w0 w' ∧ KeepBut w w' g none := by
 have hu31 := underlying31
 have HI0 := sqa hI
 have HK := sqa (KeepBut.refl w g none)
 have HL := sqa hB.size
 clear hI
 have HW0 := sqa hB.size
 have HB := sqa hB
 clear hB
 unfold spec_l20Tied.f at H
 obtain ⟨⟨t0, t1⟩, A2, H⟩ := sqD H
 try dsimp only at H
 by_cases c3 : t0 = true
 ·subst c3
  rw [if_pos rfl] at H
  obtain ⟨⟨t2, t3, t4⟩, A4, H⟩ := sqD H
  try dsimp only at H
  obtain ⟨rfl, rfl, rfl⟩ := sqO3 H
  go_enter func115, ntmps115
  go_wp2_with (first | ((with_reducible refine sqd 2 rfl ?_); refine sqBox (N := 2) (cs := #[.int .i64 0, .int .i64 0]) (t := 31) ?_; intro g0 hg w5 B0 hb; replace HB := sqa (below_step (Z68 HI0) hb); have GW0 := sqa ((Z142 : w.heap.size ≤ g0)); have E0 := sqa ((Nat.le_trans HW0.out (Z142 : w.heap.size ≤ g0) : w0.heap.size ≤ g0)); replace HK := sqa (KeepBut.trans Z67 (KeepBut.of_below hb g none) (.inl rfl)); have N0 := sqa ((Z69 HI0 : g ≠ g0)); have N1 := sqa ((Z70 HI0 : g0 ≠ g)); replace HI0 := sqa (IsS131.below (Z66 HI0) hb); clear hb hg) | ((with_reducible refine sqc 74 rfl ?_); refine sqC (some 6) func74 #[.pointer (some ⟨g, 0, none⟩), .int .i64 9] ?_; (with_reducible refine (spec_l20Rd_odd.calls k g s0_0 s0_1 9 true t1 w0 _ ?side1 ?side2 A2.1).mono ?_); (case side1 => exact Z73 HI0 N0); (case side2 => exact Z72 HI0 E0); rintro e w6 ⟨rfl, hi, hb, hk⟩; refine ⟨_, rfl, ?_⟩; replace B0 := sqkb hk B0 N1; replace HK := sqa (KeepBut.trans (Z71 GW0) hk (.inl rfl)); replace HB := sqa (hb); replace HI0 := sqa (hi)) | ((with_reducible refine sqc 113 rfl ?_); refine sqC (some 8) func113 #[.pointer (some ⟨g, 0, none⟩), .int .i64 3] ?_; (with_reducible refine (spec_l20Fraction.calls k g s0_0 t1 3 t2 t3 t4 w0 _ ?side1 ?side2 A4.1).mono ?_); (case side1 => exact Z73 HI0 N0); (case side2 => exact Z72 HI0 E0); rintro e w7 ⟨rfl, hi, hb, hk⟩; refine ⟨_, rfl, ?_⟩; replace B0 := sqkb hk B0 N1; replace HK := sqa (KeepBut.trans (Z71 GW0) hk (.inl rfl)); replace HB := sqa (hb); replace HI0 := sqa (hi); have := N1.1; have := N0.1; obtain ⟨_, _, _, _⟩ := sqY2 B0))
  refine sqEr g0 31 #[.int .i64 t2, .int .i64 t3] (by refine sqPut (cs := #[.int .i64 t2, .int .i64 0]) ?_ 1; refine sqPut (cs := #[.int .i64 0, .int .i64 0]) ?_ 0; exact sqK B0) underlying31 ?_
  exact ⟨Z5, Z73 HI0 N0, Z72 HI0 E0, Z71 GW0⟩
 obtain rfl := sqb c3
 rw [if_neg sqF] at H
 obtain ⟨⟨t5, t6⟩, A0, H⟩ := sqD H
 try dsimp only at H
 obtain ⟨⟨t7, t8⟩, A1, H⟩ := sqD H
 try dsimp only at H
 obtain ⟨⟨t9, t737⟩, A3, H⟩ := sqD H
 try dsimp only at H
 obtain ⟨⟨t10, t11, t12⟩, A5, H⟩ := sqD H
 try dsimp only at H
 by_cases c0 : t12 = true
 ·subst c0
  rw [if_pos rfl] at H
  obtain ⟨rfl, rfl, rfl⟩ := sqO3 H
  go_enter func115, ntmps115
  go_wp2_with (first | ((with_reducible refine sqd 2 rfl ?_); refine sqBox (N := 2) (cs := #[.int .i64 0, .int .i64 0]) (t := 31) ?_; intro g0 hg w1 B0 hb; replace HB := sqa (below_step (Z68 HI0) hb); have GW0 := sqa ((Z142 : w.heap.size ≤ g0)); have E0 := sqa ((Nat.le_trans HW0.out (Z142 : w.heap.size ≤ g0) : w0.heap.size ≤ g0)); replace HK := sqa (KeepBut.trans Z67 (KeepBut.of_below hb g none) (.inl rfl)); have N0 := sqa ((Z69 HI0 : g ≠ g0)); have N1 := sqa ((Z70 HI0 : g0 ≠ g)); replace HI0 := sqa (IsS131.below (Z66 HI0) hb); clear hb hg) | ((with_reducible refine sqc 74 rfl ?_); refine sqC (some 6) func74 #[.pointer (some ⟨g, 0, none⟩), .int .i64 9] ?_; (with_reducible refine (spec_l20Rd_odd.calls k g s0_0 s0_1 9 false t1 w0 _ ?side1 ?side2 A2.1).mono ?_); (case side1 => exact Z73 HI0 N0); (case side2 => exact Z72 HI0 E0); rintro e w2 ⟨rfl, hi, hb, hk⟩; refine ⟨_, rfl, ?_⟩; replace B0 := sqkb hk B0 N1; replace HK := sqa (KeepBut.trans (Z71 GW0) hk (.inl rfl)); replace HB := sqa (hb); replace HI0 := sqa (hi)) | ((with_reducible refine sqc 82 rfl ?_); refine sqC (some 11) func82 #[.pointer (some ⟨g, 0, none⟩), .int .i64 13] ?_; (with_reducible refine (spec_l20Rd_pick.calls k g s0_0 t1 13 t5 t6 w0 _ ?side1 ?side2 A0.1).mono ?_); (case side1 => exact Z73 HI0 N0); (case side2 => exact Z72 HI0 E0); rintro e w3 ⟨rfl, hi, hb, hk⟩; refine ⟨_, rfl, ?_⟩; replace B0 := sqkb hk B0 N1; replace HK := sqa (KeepBut.trans (Z71 GW0) hk (.inl rfl)); replace HB := sqa (hb); replace HI0 := sqa (hi)) | ((with_reducible refine sqc 82 rfl ?_); refine sqC (some 13) func82 #[.pointer (some ⟨g, 0, none⟩), .int .i64 13] ?_; (with_reducible refine (spec_l20Rd_pick.calls k g s0_0 t6 13 t7 t8 w0 _ ?side1 ?side2 A1.1).mono ?_); (case side1 => exact Z73 HI0 N0); (case side2 => exact Z72 HI0 E0); rintro e w4 ⟨rfl, hi, hb, hk⟩; refine ⟨_, rfl, ?_⟩; replace B0 := sqkb hk B0 N1; replace HK := sqa (KeepBut.trans (Z71 GW0) hk (.inl rfl)); replace HB := sqa (hb); replace HI0 := sqa (hi)) | ((with_reducible refine sqc 82 rfl ?_); refine sqC (some 16) func82 #[.pointer (some ⟨g, 0, none⟩), .int .i64 13] ?_; (with_reducible refine (spec_l20Rd_pick.calls k g s0_0 t8 13 t9 t737 w0 _ ?side1 ?side2 A3.1).mono ?_); (case side1 => exact Z73 HI0 N0); (case side2 => exact Z72 HI0 E0); rintro e w8 ⟨rfl, hi, hb, hk⟩; refine ⟨_, rfl, ?_⟩; replace B0 := sqkb hk B0 N1; replace HK := sqa (KeepBut.trans (Z71 GW0) hk (.inl rfl)); replace HB := sqa (hb); replace HI0 := sqa (hi)) | ((with_reducible refine sqc 136 rfl ?_); refine sqC (some 17) func136 #[.int .i64 (wrap64 (t5 - t7)), .int .i64 t9] ?_; (with_reducible refine (spec_LowestOf.calls k (wrap64 (t5 - t7)) t9 t10 t11 true _ A5.1).mono ?_); refine sqV fun w9 hb => ?_; replace B0 := sqT B0 hb; replace HK := sqa (KeepBut.trans (Z71 GW0) (KeepBut.of_below hb g none) (.inl rfl)); replace HB := sqa (below_step (Z72 HI0 E0) hb); replace HI0 := sqa (IsS131.below (Z73 HI0 N0) hb)) | ((with_reducible refine sqd 3 rfl ?_); refine sqBox (N := 3) (cs := #[.int .i64 0, .int .i64 0]) (t := 31) ?_; intro g1 hg w21 B2 hb; replace HB := sqa (below_step (Z72 HI0 E0) hb); have GW1 := sqa ((Z143 GW0 : w.heap.size ≤ g1)); have E1 := sqa ((Nat.le_trans HW0.out (Z143 GW0 : w.heap.size ≤ g1) : w0.heap.size ≤ g1)); replace HK := sqa (KeepBut.trans (Z71 GW0) (KeepBut.of_below hb g none) (.inl rfl)); obtain ⟨N2, N3⟩ := sqM hg B0; replace B0 := sqT B0 hb; have N4 := sqa ((Z134 HI0 N0 : g ≠ g1)); have N5 := sqa ((Z135 HI0 N0 : g1 ≠ g)); replace HI0 := sqa (IsS131.below (Z73 HI0 N0) hb); clear hb hg; have := N3.1; have := N2.1; have := N5.1; have := N4.1; obtain ⟨_, _, _, _⟩ := sqY2 B2; have := N1.1; have := N0.1; obtain ⟨_, _, _, _⟩ := sqY2 B0))
  refine sqEr g0 31 #[.int .i64 t10, .int .i64 t11] (by refine sqPut (cs := #[.int .i64 t10, .int .i64 0]) ?_ 1; refine sqPut (cs := #[.int .i64 0, .int .i64 0]) ?_ 0; refine sqFar ?_ N2; refine sqFar ?_ N2; exact sqK B0) underlying31 ?_
  exact ⟨Z5, Z74 HI0 N0 N4, Z76 HI0 E0 E1, Z75 GW0 GW1⟩
 obtain rfl := sqb c0
 rw [if_neg sqF] at H
 obtain ⟨rfl, rfl, rfl⟩ := sqO3 H
 go_enter func115, ntmps115
 go_wp2_with (first | ((with_reducible refine sqd 2 rfl ?_); refine sqBox (N := 2) (cs := #[.int .i64 0, .int .i64 0]) (t := 31) ?_; intro g0 hg w27 B0 hb; replace HB := sqa (below_step (Z68 HI0) hb); have GW0 := sqa ((Z142 : w.heap.size ≤ g0)); have E0 := sqa ((Nat.le_trans HW0.out (Z142 : w.heap.size ≤ g0) : w0.heap.size ≤ g0)); replace HK := sqa (KeepBut.trans Z67 (KeepBut.of_below hb g none) (.inl rfl)); have N0 := sqa ((Z69 HI0 : g ≠ g0)); have N1 := sqa ((Z70 HI0 : g0 ≠ g)); replace HI0 := sqa (IsS131.below (Z66 HI0) hb); clear hb hg) | ((with_reducible refine sqc 74 rfl ?_); refine sqC (some 6) func74 #[.pointer (some ⟨g, 0, none⟩), .int .i64 9] ?_; (with_reducible refine (spec_l20Rd_odd.calls k g s0_0 s0_1 9 false t1 w0 _ ?side1 ?side2 A2.1).mono ?_); (case side1 => exact Z73 HI0 N0); (case side2 => exact Z72 HI0 E0); rintro e w28 ⟨rfl, hi, hb, hk⟩; refine ⟨_, rfl, ?_⟩; replace B0 := sqkb hk B0 N1; replace HK := sqa (KeepBut.trans (Z71 GW0) hk (.inl rfl)); replace HB := sqa (hb); replace HI0 := sqa (hi)) | ((with_reducible refine sqc 82 rfl ?_); refine sqC (some 11) func82 #[.pointer (some ⟨g, 0, none⟩), .int .i64 13] ?_; (with_reducible refine (spec_l20Rd_pick.calls k g s0_0 t1 13 t5 t6 w0 _ ?side1 ?side2 A0.1).mono ?_); (case side1 => exact Z73 HI0 N0); (case side2 => exact Z72 HI0 E0); rintro e w29 ⟨rfl, hi, hb, hk⟩; refine ⟨_, rfl, ?_⟩; replace B0 := sqkb hk B0 N1; replace HK := sqa (KeepBut.trans (Z71 GW0) hk (.inl rfl)); replace HB := sqa (hb); replace HI0 := sqa (hi)) | ((with_reducible refine sqc 82 rfl ?_); refine sqC (some 13) func82 #[.pointer (some ⟨g, 0, none⟩), .int .i64 13] ?_; (with_reducible refine (spec_l20Rd_pick.calls k g s0_0 t6 13 t7 t8 w0 _ ?side1 ?side2 A1.1).mono ?_); (case side1 => exact Z73 HI0 N0); (case side2 => exact Z72 HI0 E0); rintro e w30 ⟨rfl, hi, hb, hk⟩; refine ⟨_, rfl, ?_⟩; replace B0 := sqkb hk B0 N1; replace HK := sqa (KeepBut.trans (Z71 GW0) hk (.inl rfl)); replace HB := sqa (hb); replace HI0 := sqa (hi)) | ((with_reducible refine sqc 82 rfl ?_); refine sqC (some 16) func82 #[.pointer (some ⟨g, 0, none⟩), .int .i64 13] ?_; (with_reducible refine (spec_l20Rd_pick.calls k g s0_0 t8 13 t9 t737 w0 _ ?side1 ?side2 A3.1).mono ?_); (case side1 => exact Z73 HI0 N0); (case side2 => exact Z72 HI0 E0); rintro e w31 ⟨rfl, hi, hb, hk⟩; refine ⟨_, rfl, ?_⟩; replace B0 := sqkb hk B0 N1; replace HK := sqa (KeepBut.trans (Z71 GW0) hk (.inl rfl)); replace HB := sqa (hb); replace HI0 := sqa (hi)) | ((with_reducible refine sqc 136 rfl ?_); refine sqC (some 17) func136 #[.int .i64 (wrap64 (t5 - t7)), .int .i64 t9] ?_; (with_reducible refine (spec_LowestOf.calls k (wrap64 (t5 - t7)) t9 t10 t11 false _ A5.1).mono ?_); refine sqV fun w32 hb => ?_; replace B0 := sqT B0 hb; replace HK := sqa (KeepBut.trans (Z71 GW0) (KeepBut.of_below hb g none) (.inl rfl)); replace HB := sqa (below_step (Z72 HI0 E0) hb); replace HI0 := sqa (IsS131.below (Z73 HI0 N0) hb)) | ((with_reducible refine sqd 3 rfl ?_); refine sqBox (N := 3) (cs := #[.int .i64 0, .int .i64 0]) (t := 31) ?_; intro g1 hg w33 B2 hb; replace HB := sqa (below_step (Z72 HI0 E0) hb); have GW1 := sqa ((Z143 GW0 : w.heap.size ≤ g1)); have E1 := sqa ((Nat.le_trans HW0.out (Z143 GW0 : w.heap.size ≤ g1) : w0.heap.size ≤ g1)); replace HK := sqa (KeepBut.trans (Z71 GW0) (KeepBut.of_below hb g none) (.inl rfl)); obtain ⟨N2, N3⟩ := sqM hg B0; replace B0 := sqT B0 hb; have N4 := sqa ((Z134 HI0 N0 : g ≠ g1)); have N5 := sqa ((Z135 HI0 N0 : g1 ≠ g)); replace HI0 := sqa (IsS131.below (Z73 HI0 N0) hb); clear hb hg; have := N3.1; have := N2.1; have := N5.1; have := N4.1; obtain ⟨_, _, _, _⟩ := sqY2 B2; have := N1.1; have := N0.1; obtain ⟨_, _, _, _⟩ := sqY2 B0))
 refine sqEr g0 31 #[.int .i64 1, .int .i64 0] (by refine sqPut (cs := #[.int .i64 1, .int .i64 0]) ?_ 1; refine sqPut (cs := #[.int .i64 0, .int .i64 0]) ?_ 0; refine sqFar ?_ N2; refine sqFar ?_ N2; exact sqK B0) underlying31 ?_
 exact ⟨Z5, Z74 HI0 N0 N4, Z76 HI0 E0 E1, Z75 GW0 GW1⟩
end Go.Proofs.YtofmlbgfcohhoaaGreatDoor.PFnDeskLine
