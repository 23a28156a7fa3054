import Derived.Test.YtgbnlaalfebaeaaGreatDoorBuild
import Derived.Test.YtgbnlaalfebaeaaGreatDoorRepS
import Derived.Test.YtgbnlaalfebaeaaGreatDoorOnce
/-! strings.NewReplacer("T", "t", "t", "T").Replace: the table built once, by sync.Once. -/
namespace Go.Proofs.YtgbnlaalfebaeaaGreatDoor.Rep
open Go.RowKit Go.Proofs.YtgbnlaalfebaeaaGreatDoorW.PrintWords Go.Proofs.YtgbnlaalfebaeaaGreatDoorW.PrintLast

set_option maxRecDepth 100000 in
set_option maxHeartbeats 4000000 in
theorem once_calls (b n c : Nat) (x0 x1 x2 x3 : Value) (w0 w : World) (hB : Below w0.heap.size w0 w) (hbw : w0.heap.size ≤ b) (hb : w.heap[b]? = some (.cells #[x0, x1, x2, x3, .slice (some ⟨n, 0, none⟩) 4 c] 88 (0, 0)))
    (h0 : w.cell? ⟨n, 0, none⟩ = some (.string ⟨#[84]⟩)) (h1 : w.cell? ⟨n, 1, none⟩ = some (.string ⟨#[116]⟩)) (h2 : w.cell? ⟨n, 2, none⟩ = some (.string ⟨#[116]⟩)) (h3 : w.cell? ⟨n, 3, none⟩ = some (.string ⟨#[84]⟩)) :
    Calls Tryz.prog 53 #[.pointer (some ⟨b, 0, none⟩)] w fun e w' => ∃ g, e = .returned (.tuple #[]) ∧ w'.heap[b]? = some (.cells #[x0, x1, x2, .iface 128 (.pointer (some ⟨g, 0, none⟩)), .slice none 0 0] 88 (0, 0)) ∧ w'.heap[g]? = some (.cells tabM 127 (0, 0)) ∧ Below w0.heap.size w0 w' := by
  go_enter Tryz.func53, Tryz.ntmps53
  go_wp2_with (go_at_call 68; refine (build_calls b n c x0 x1 x2 x3 w hb h0 h1 h2 h3).mono ?_; rintro e w' ⟨g, rfl, hg, hBl, hgs⟩; have hb' := blk_below hb hBl; have hcz3 : w'.cell? ⟨b, 3, none⟩ = some x3 := (blk_cell hb' 3).trans rfl; have hfz3 := blk_frozen hb' 3; have hcz4 : w'.cell? ⟨b, 4, none⟩ = some (.slice (some ⟨n, 0, none⟩) 4 c) := (blk_cell hb' 4).trans rfl; have hfz4 := blk_frozen hb' 4; have hne : g ≠ b := by (have := blk_lt hb; omega))
  go_end0
  have hs : w0.heap.size ≤ w'.heap.size := (below_step hB hBl).size
  exact ⟨g, rfl, blk_put (blk_put hb' 3 _ rfl) 4 _ rfl, blk_far (blk_far hg hne _) hne _, below_set (below_set (below_step hB hBl) hbw) hbw⟩

set_option maxRecDepth 100000 in
set_option maxHeartbeats 4000000 in
theorem load_calls (a : Addr) (d : Int) (w : World) (h0 : w.cell? a = some (.int .u32 d)) :
    Calls Tryz.prog 66 #[.pointer (some a)] w fun e w' => e = .returned (.bool (d != 0)) ∧ w' = w := by
  have hl := run_call_load (P := Tryz.prog) Tryz.func78 (by kernel_rfl) (by kernel_rfl) (by kernel_rfl) .u32 (by kernel_rfl) h0
  go_enter Tryz.func66, Tryz.ntmps66
  go_wp2
  go_ret
  exact ⟨rfl, rfl⟩

set_option maxRecDepth 100000 in
set_option maxHeartbeats 4000000 in
theorem slow_calls (b n c : Nat) (x2 x3 : Value) (w0 w : World) (hB : Below w0.heap.size w0 w) (hbw : w0.heap.size ≤ b) (hnb : n ≠ b) (hb : w.heap[b]? = some (.cells #[.int .u32 0, .int .i32 0, x2, x3, .slice (some ⟨n, 0, none⟩) 4 c] 88 (0, 0)))
    (h0 : w.cell? ⟨n, 0, none⟩ = some (.string ⟨#[84]⟩)) (h1 : w.cell? ⟨n, 1, none⟩ = some (.string ⟨#[116]⟩)) (h2 : w.cell? ⟨n, 2, none⟩ = some (.string ⟨#[116]⟩)) (h3 : w.cell? ⟨n, 3, none⟩ = some (.string ⟨#[84]⟩)) :
    Calls Tryz.prog 67 #[.pointer (some ⟨b, 0, none⟩), .func (.func 53) #[.pointer (some ⟨b, 0, none⟩)] #[]] w fun e w' => ∃ g, e = .returned (.tuple #[]) ∧ w'.heap[b]? = some (.cells #[.int .u32 1, .int .i32 0, x2, .iface 128 (.pointer (some ⟨g, 0, none⟩)), .slice none 0 0] 88 (0, 0)) ∧ w'.heap[g]? = some (.cells tabM 127 (0, 0)) ∧ Below w0.heap.size w0 w' := by
  have hb1 : (w.setCell ⟨b, 1, none⟩ (.int .i32 1)).heap[b]? = some (.cells #[.int .u32 0, .int .i32 1, x2, x3, .slice (some ⟨n, 0, none⟩) 4 c] 88 (0, 0)) := blk_put hb 1 _ rfl
  have hf : ∀ j : Nat, (⟨b, 1, none⟩ : Addr) ≠ ⟨n, j, none⟩ := fun j h => hnb (congrArg Addr.block h).symm
  have k0 := (World.cell?_setCell_other w ⟨b, 1, none⟩ ⟨n, 0, none⟩ (.int .i32 1) (hf 0)).trans h0
  have k1 := (World.cell?_setCell_other w ⟨b, 1, none⟩ ⟨n, 1, none⟩ (.int .i32 1) (hf 1)).trans h1
  have k2 := (World.cell?_setCell_other w ⟨b, 1, none⟩ ⟨n, 2, none⟩ (.int .i32 1) (hf 2)).trans h2
  have k3 := (World.cell?_setCell_other w ⟨b, 1, none⟩ ⟨n, 3, none⟩ (.int .i32 1) (hf 3)).trans h3
  have hnot : ∀ (x : Bool) (w : World), (Op.unary .not (.bool x)).run Tryz.prog w = .ok (.bool (!x)) w := fun _ _ => rfl
  go_enter_defers Tryz.func67, Tryz.ntmps67
  go_wp2_with (first | (go_at_call 79; refine (lock_free ⟨b, 1, none⟩ _ ((blk_cell hb 1).trans rfl) (blk_frozen hb 1)).mono ?_; rintro e w' ⟨rfl, rfl⟩) | (go_at_call 66; refine (load_calls ⟨b, 0, none⟩ 0 _ ((blk_cell hb1 0).trans rfl)).mono ?_; rintro e w' ⟨rfl, rfl⟩) | (go_at_call 53; refine (once_calls b n c _ _ x2 x3 w0 _ (below_set hB hbw) hbw hb1 k0 k1 k2 k3).mono ?_; rintro e w' ⟨g, rfl, hb2, hg2, hB2⟩))
  have hne : g ≠ b := blk_ne hg2 hb2 (by decide)
  go_wp2
  have hb3 : (w'.drew.setCell ⟨b, 0, none⟩ (.int .u32 1)).heap[b]? = some (.cells #[.int .u32 1, .int .i32 1, x2, .iface 128 (.pointer (some ⟨g, 0, none⟩)), .slice none 0 0] 88 (0, 0)) := blk_put (blk_drew hb2) 0 _ rfl
  refine leaves_cons (f := 81) (args := #[.pointer (some ⟨b, 0, none⟩), .bool true]) (by simp) (by simp [go_sem]) ?_
  refine (store_deferred ⟨b, 0, none⟩ (.int .u32 0) .returning _ ((blk_cell hb2 0).trans rfl) (blk_frozen hb2 0)).mono ?_
  rintro e u' w'' ⟨rfl, rfl, rfl⟩
  refine leaves_cons (f := 80) (args := #[.pointer (some ⟨b, 1, none⟩)]) (by simp [settle]) (by simp [go_sem]) ?_
  refine (unlock_deferred ⟨b, 1, none⟩ _ _ ((blk_cell hb3 1).trans rfl) (blk_frozen hb3 1)).mono ?_
  rintro e u' w'' ⟨rfl, rfl, rfl⟩
  simp [Leaves, settle, results, Tryz.results67]
  exact ⟨g, blk_put hb3 1 _ rfl, blk_far (blk_far (blk_drew hg2) (p := ⟨b, 0, none⟩) hne _) (p := ⟨b, 1, none⟩) hne _, below_set (below_set (below_drew1 hB2) hbw) hbw⟩

set_option maxRecDepth 100000 in
set_option maxHeartbeats 4000000 in
theorem do_calls (b n c : Nat) (x2 x3 : Value) (w0 w : World) (hB : Below w0.heap.size w0 w) (hbw : w0.heap.size ≤ b) (hnb : n ≠ b) (hb : w.heap[b]? = some (.cells #[.int .u32 0, .int .i32 0, x2, x3, .slice (some ⟨n, 0, none⟩) 4 c] 88 (0, 0)))
    (h0 : w.cell? ⟨n, 0, none⟩ = some (.string ⟨#[84]⟩)) (h1 : w.cell? ⟨n, 1, none⟩ = some (.string ⟨#[116]⟩)) (h2 : w.cell? ⟨n, 2, none⟩ = some (.string ⟨#[116]⟩)) (h3 : w.cell? ⟨n, 3, none⟩ = some (.string ⟨#[84]⟩)) :
    Calls Tryz.prog 52 #[.pointer (some ⟨b, 0, none⟩), .func (.func 53) #[.pointer (some ⟨b, 0, none⟩)] #[]] w fun e w' => ∃ g, e = .returned (.tuple #[]) ∧ w'.heap[b]? = some (.cells #[.int .u32 1, .int .i32 0, x2, .iface 128 (.pointer (some ⟨g, 0, none⟩)), .slice none 0 0] 88 (0, 0)) ∧ w'.heap[g]? = some (.cells tabM 127 (0, 0)) ∧ Below w0.heap.size w0 w' := by
  have hnot : ∀ (x : Bool) (w : World), (Op.unary .not (.bool x)).run Tryz.prog w = .ok (.bool (!x)) w := fun _ _ => rfl
  go_enter Tryz.func52, Tryz.ntmps52
  go_wp2_with (first | (go_at_call 66; refine (load_calls ⟨b, 0, none⟩ 0 _ ((blk_cell hb 0).trans rfl)).mono ?_; rintro e w' ⟨rfl, rfl⟩) | (go_at_call 67; refine (slow_calls b n c x2 x3 w0 _ hB hbw hnb hb h0 h1 h2 h3).mono ?_; rintro e w' ⟨g, rfl, hb2, hg2, hB2⟩))
  go_end0
  exact ⟨g, rfl, hb2, hg2, hB2⟩

set_option maxRecDepth 100000 in
set_option maxHeartbeats 4000000 in
theorem replace_calls (b n c : Nat) (x2 x3 : Value) (s : ByteArray) (hs : s.size ≤ 9223372036854775807) (w0 w : World) (hB : Below w0.heap.size w0 w) (hbw : w0.heap.size ≤ b) (hnb : n ≠ b) (hb : w.heap[b]? = some (.cells #[.int .u32 0, .int .i32 0, x2, x3, .slice (some ⟨n, 0, none⟩) 4 c] 88 (0, 0)))
    (h0 : w.cell? ⟨n, 0, none⟩ = some (.string ⟨#[84]⟩)) (h1 : w.cell? ⟨n, 1, none⟩ = some (.string ⟨#[116]⟩)) (h2 : w.cell? ⟨n, 2, none⟩ = some (.string ⟨#[116]⟩)) (h3 : w.cell? ⟨n, 3, none⟩ = some (.string ⟨#[84]⟩)) :
    Calls Tryz.prog 39 #[.pointer (some ⟨b, 0, none⟩), .string s] w fun e w' => e = .returned (.string (mirT s)) ∧ Below w0.heap.size w0 w' := by
  have hm : ∀ (v : Value) (w : World), (method 294 128 v "Replace").run Tryz.prog w = .ok (138, v) w := fun _ _ => rfl
  go_enter Tryz.func39, Tryz.ntmps39
  go_wp2_with (first | (go_at_call 52; refine (do_calls b n c x2 x3 w0 _ hB hbw hnb hb h0 h1 h2 h3).mono ?_; rintro e w' ⟨g, rfl, hb2, hg2, hB2⟩; have hcz3 : w'.cell? ⟨b, 3, none⟩ = some (.iface 128 (.pointer (some ⟨g, 0, none⟩))) := (blk_cell hb2 3).trans rfl) | (go_at_call 138; refine (rep_calls g s _ hg2 hs).mono ?_; rintro e w' ⟨rfl, hB3⟩))
  go_ret
  exact ⟨rfl, below_step hB2 hB3⟩
end Go.Proofs.YtgbnlaalfebaeaaGreatDoor.Rep
