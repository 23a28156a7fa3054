import Derived.Test.YtgbnlaalfebaeaaGreatDoorRun
/-! strings.NewReplacer over "T", "t", "t", "T", and impl.mirrorDance. -/
namespace Go.Proofs.YtgbnlaalfebaeaaGreatDoor.Rep
open Go.RowKit Go.Proofs.YtgbnlaalfebaeaaGreatDoorW.PrintWords Go.Proofs.YtgbnlaalfebaeaaGreatDoorW.PrintLast

set_option maxRecDepth 100000 in
set_option maxHeartbeats 4000000 in
theorem new_calls (p c : Nat) (w : World) (h0 : w.cell? ⟨p, 0, none⟩ = some (.string ⟨#[84]⟩)) (h1 : w.cell? ⟨p, 1, none⟩ = some (.string ⟨#[116]⟩)) (h2 : w.cell? ⟨p, 2, none⟩ = some (.string ⟨#[116]⟩)) (h3 : w.cell? ⟨p, 3, none⟩ = some (.string ⟨#[84]⟩)) :
    Calls Tryz.prog 38 #[.slice (some ⟨p, 0, none⟩) 4 c] w fun e w' => ∃ b n c' x2 x3, e = .returned (.pointer (some ⟨b, 0, none⟩)) ∧ w.heap.size ≤ b ∧ n ≠ b ∧ w'.heap[b]? = some (.cells #[.int .u32 0, .int .i32 0, x2, x3, .slice (some ⟨n, 0, none⟩) 4 c'] 88 (0, 0)) ∧
      w'.cell? ⟨n, 0, none⟩ = some (.string ⟨#[84]⟩) ∧ w'.cell? ⟨n, 1, none⟩ = some (.string ⟨#[116]⟩) ∧ w'.cell? ⟨n, 2, none⟩ = some (.string ⟨#[116]⟩) ∧ w'.cell? ⟨n, 3, none⟩ = some (.string ⟨#[84]⟩) ∧ Below w.heap.size w w' := by
  go_enter Tryz.func38, Tryz.ntmps38
  go_wp2
  go_ret
  have hn := fun (o1 o2 : Obj) => blk_drew (blk_alloc (blk_new w o1) o2)
  have hb := fun (o1 o2 : Obj) => blk_drew (blk_new (w.alloc o1) o2)
  have hsz : ∀ o1 : Obj, (w.alloc o1).heap.size = w.heap.size + 1 := fun o1 => by simp only [World.alloc, Array.size_push]
  refine ⟨w.heap.size + 1, w.heap.size, (Question.appendCap 4 0 9).cut (w.tape w.drawn (Question.appendCap 4 0 9)), .int .u32 0, .nilIface, rfl, by omega, by omega, ?_, ?_, ?_, ?_, ?_, below_drew1 (below_alloc (below_alloc (Below.refl _ _) _) _)⟩
  rotate_left
  · exact (blk_cell (hn _ _) 0).trans (by rw [Array.getElem?_append_left (by simp)]; rfl)
  · exact (blk_cell (hn _ _) 1).trans (by rw [Array.getElem?_append_left (by simp)]; rfl)
  · exact (blk_cell (hn _ _) 2).trans (by rw [Array.getElem?_append_left (by simp)]; rfl)
  · exact (blk_cell (hn _ _) 3).trans (by rw [Array.getElem?_append_left (by simp)]; rfl)
  have e := hb (Obj.cells (#[Value.string ⟨#[84]⟩, Value.string ⟨#[116]⟩, Value.string ⟨#[116]⟩, Value.string ⟨#[84]⟩] ++ Builtin.zeroCells #[Value.string ⟨#[]⟩] ((Question.appendCap 4 0 9).cut (w.tape w.drawn (Question.appendCap 4 0 9)) - 4)) 9) (Obj.cells #[Value.int IntKind.u32 0, Value.int IntKind.i32 0, Value.int IntKind.u32 0, Value.nilIface, Value.slice (some { block := w.heap.size, off := 0 }) 4 ((Question.appendCap 4 0 9).cut (w.tape w.drawn (Question.appendCap 4 0 9)))] 88)
  rw [hsz] at e
  exact e
set_option maxRecDepth 100000 in
set_option maxHeartbeats 4000000 in
theorem mirror_calls (s : ByteArray) (hs : s.size ≤ 9223372036854775807) (w : World) :
    Calls Tryz.prog 20 #[.string s] w fun e w' => e = .returned (.string (mirT s)) ∧ Below w.heap.size w w' := by
  go_enter Tryz.func20, Tryz.ntmps20
  go_wp2_with (first | (go_at_call 38; refine (new_calls w.heap.size 4 _ (by go_simp) (by go_simp) (by go_simp) (by go_simp)).mono ?_; rintro e w' ⟨b, n, c', x2, x3, rfl, hbs, hnb, hb, k0, k1, k2, k3, hB⟩; have hB' : Below w.heap.size w w' := below_step (below_alloc (Below.refl _ _) _) hB; have hbw : w.heap.size ≤ b := Nat.le_trans (below_alloc (Below.refl _ _) _).size hbs) | (go_at_call 39; refine (replace_calls b n c' x2 x3 s hs w _ hB' hbw hnb hb k0 k1 k2 k3).mono ?_; rintro e w' ⟨rfl, hB2⟩))
  go_ret
  exact ⟨rfl, hB2⟩
end Go.Proofs.YtgbnlaalfebaeaaGreatDoor.Rep
