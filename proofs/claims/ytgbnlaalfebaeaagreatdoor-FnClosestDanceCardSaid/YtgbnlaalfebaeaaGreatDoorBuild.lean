import Derived.Test.YtgbnlaalfebaeaaGreatDoorProg
import Derived.Test.YtgbnlaalfebaeaaGreatDoorWWords
import Derived.Deep.WholeRow
import Derived.Test.YtgbnlaalfebaeaaGreatDoorWLast
import Derived.Test.YtgbnlaalfebaeaaGreatDoorWMore
/-! strings.Replacer at single bytes: build's table. -/
namespace Go.Proofs.YtgbnlaalfebaeaaGreatDoor.Rep
open Go.RowKit Go.Proofs.YtgbnlaalfebaeaaGreatDoorW.PrintWords Go.Proofs.YtgbnlaalfebaeaaGreatDoorW.PrintLast

/-- The table while it is laid. -/
def tabC (k : Nat) : Array Value := ((List.range 256).map fun i => Value.int .u8 (if i < k then (i : Int) else 0)).toArray
theorem tabC_size (k : Nat) : (tabC k).size = 256 := by simp [tabC]
theorem tabC_get (k i : Nat) (h : i < 256) : (tabC k)[i]? = some (.int .u8 (if i < k then (i : Int) else 0)) := by
  simp [tabC, h]
theorem tabC_set (k : Nat) (h : k < 256) : (tabC k).setIfInBounds k (.int .u8 (k : Int)) = tabC (k + 1) := by
  apply Array.ext_getElem?
  intro i
  rw [Array.getElem?_setIfInBounds]
  by_cases hi : i < 256
  · rw [tabC_get _ i hi, tabC_get _ i hi, tabC_size]
    by_cases hk : k = i
    · subst hk
      rw [if_pos rfl, if_pos h, if_pos (by omega)]
    · rw [if_neg hk]
      congr 2
      by_cases h2 : i < k
      · rw [if_pos h2, if_pos (by omega)]
      · rw [if_neg h2, if_neg (by omega)]
  · rw [if_neg (by omega), Array.getElem?_eq_none (by rw [tabC_size]; omega), Array.getElem?_eq_none (by rw [tabC_size]; omega)]
theorem tabC_zero : Tryz.zeroCells127 = tabC 0 := by kernel_rfl
/-- The table: T and t exchanged. -/
def tabM : Array Value := ((tabC 256).setIfInBounds 116 (.int .u8 84)).setIfInBounds 84 (.int .u8 116)

set_option maxRecDepth 100000 in
set_option maxHeartbeats 4000000 in
theorem build_calls (b n c : Nat) (x0 x1 x2 x3 : Value) (w : World) (hb : w.heap[b]? = some (.cells #[x0, x1, x2, x3, .slice (some ⟨n, 0, none⟩) 4 c] 88 (0, 0)))
    (h0 : w.cell? ⟨n, 0, none⟩ = some (.string ⟨#[84]⟩)) (h1 : w.cell? ⟨n, 1, none⟩ = some (.string ⟨#[116]⟩)) (h2 : w.cell? ⟨n, 2, none⟩ = some (.string ⟨#[116]⟩)) (h3 : w.cell? ⟨n, 3, none⟩ = some (.string ⟨#[84]⟩)) :
    Calls Tryz.prog 68 #[.pointer (some ⟨b, 0, none⟩)] w fun e w' => ∃ g, e = .returned (.iface 128 (.pointer (some ⟨g, 0, none⟩))) ∧ w'.heap[g]? = some (.cells tabM 127 (0, 0)) ∧ Below w.heap.size w w' ∧ w.heap.size ≤ g := by
  have hcz0 : w.cell? ⟨b, 4, none⟩ = some (.slice (some ⟨n, 0, none⟩) 4 c) := (blk_cell hb 4).trans rfl
  have hfz0 := blk_frozen hb 4
  have hst := fun w : World => run_storeCells_new (P := Tryz.prog) w 127 Tryz.zeroCells127 Tryz.zeroCells127 (by kernel_rfl) rfl (by kernel_rfl)
  go_enter Tryz.func68, Tryz.ntmps68
  go_wp2
  go_loopg [4, 5] 2 (fun kq v4 v5 w' => ∃ j : Nat, v4 = .bool true ∧ v5 = .int .i64 (2 * (j : Int)) ∧ j + kq = 2 ∧ w' = w)
  case atStart => exact ⟨0, rfl, rfl, rfl, rfl⟩
  case round =>
    obtain ⟨j, rfl, rfl, hj, hw⟩ := hrel
    rw [hw]
    clear hw wr
    have hc : (j = 0 ∧ gk = 2) ∨ (j = 1 ∧ gk = 1) ∨ (j = 2 ∧ gk = 0) := by omega
    rcases hc with ⟨rfl, rfl⟩ | ⟨rfl, rfl⟩ | ⟨rfl, rfl⟩
    · go_wp2
      go_roundg 1
      case measure => omega
      case rel => exact ⟨1, rfl, rfl, rfl, rfl⟩
    · go_wp2
      go_roundg 0
      case measure => omega
      case rel => exact ⟨2, rfl, rfl, rfl, rfl⟩
    · go_wp2
      rw [tabC_zero] at *
      go_loopg [61] 256 (fun kq v61 w' => ∃ j : Nat, v61 = .int .i64 (j : Int) ∧ j + kq = 256 ∧ w'.heap[w.heap.size]? = some (.cells (tabC j) 127 (0, 0)) ∧ Below w.heap.size w w')
      case atStart => exact ⟨0, rfl, rfl, blk_new _ _, below_alloc (Below.refl _ _) _⟩
      case round =>
        obtain ⟨j, rfl, hj, hrow, hB⟩ := hrel
        by_cases hlt : j < 256
        · obtain ⟨kq, rfl⟩ : ∃ q, gk = q + 1 := ⟨gk - 1, by omega⟩
          have c0 : decide ((j : Int) < 256) = true := decide_eq_true (by omega)
          have c1 : (0 ≤ (j : Int)) = True := eq_true (by omega)
          have c2 : ((j : Int) < 256) = True := eq_true (by omega)
          have hc : wr.cell? ⟨w.heap.size, j, none⟩ = some (.int .u8 (if j < j then (j : Int) else 0)) := (blk_cell hrow j).trans (tabC_get j j hlt)
          have hz := blk_frozen hrow j
          have hw8 : IntKind.u8.wrap (j : Int) = (j : Int) := by simp [IntKind.wrap, IntKind.signed, IntKind.bits]; omega
          have hw64 : wrap64 ((j : Int) + 1) = ((j + 1 : Nat) : Int) := by unfold wrap64; omega
          go_wp2
          go_roundg kq
          case measure => omega
          case rel => exact ⟨j + 1, by rfl, by omega, blk_put hrow j _ (tabC_set j hlt), below_set hB (Nat.le_refl _)⟩
        · obtain rfl : j = 256 := by omega
          go_wp2
          go_loopg [8] 2 (fun kq v8 w' => ∃ m : Nat, ∃ T : Array Value, v8 = .int .i64 (2 - 2 * (m : Int)) ∧ m + kq = 2 ∧ T = (if m = 0 then tabC 256 else if m = 1 then (tabC 256).setIfInBounds 116 (.int .u8 84) else tabM) ∧ w'.heap[w.heap.size]? = some (.cells T 127 (0, 0)) ∧ Below w.heap.size w w')
          case atStart => exact ⟨0, _, rfl, rfl, rfl, hrow, hB⟩
          case round =>
            clear hrow hB
            obtain ⟨m, T, rfl, hj, hT, hrow, hB⟩ := hrel
            have e0 := (hB.cell (World.block_lt_of_cell? w _ h0)).trans h0
            have e1 := (hB.cell (World.block_lt_of_cell? w _ h1)).trans h1
            have e2 := (hB.cell (World.block_lt_of_cell? w _ h2)).trans h2
            have e3 := (hB.cell (World.block_lt_of_cell? w _ h3)).trans h3
            have b1 : ∀ h, (((⟨#[116]⟩ : ByteArray)[0]'h).toNat : Int) = 116 := fun _ => rfl
            have b2 : ∀ h, (((⟨#[84]⟩ : ByteArray)[0]'h).toNat : Int) = 84 := fun _ => rfl
            have hm : (m = 0 ∧ gk = 2) ∨ (m = 1 ∧ gk = 1) ∨ (m = 2 ∧ gk = 0) := by omega
            rcases hm with ⟨rfl, rfl⟩ | ⟨rfl, rfl⟩ | ⟨rfl, rfl⟩
            · rw [if_pos rfl] at hT
              subst hT
              have hc : wr.cell? ⟨w.heap.size, 116, none⟩ = some (.int .u8 116) := (blk_cell hrow 116).trans (by kernel_rfl)
              have hz := blk_frozen hrow 116
              go_wp2
              go_roundg 1
              case measure => omega
              case rel => exact ⟨1, _, rfl, rfl, rfl, blk_put hrow 116 _ rfl, below_set hB (Nat.le_refl _)⟩
            · rw [if_neg (by decide), if_pos rfl] at hT
              subst hT
              have hc : wr.cell? ⟨w.heap.size, 84, none⟩ = some (.int .u8 84) := (blk_cell hrow 84).trans (by kernel_rfl)
              have hz := blk_frozen hrow 84
              go_wp2
              go_roundg 0
              case measure => omega
              case rel => exact ⟨2, _, rfl, rfl, rfl, blk_put hrow 84 _ rfl, below_set hB (Nat.le_refl _)⟩
            · rw [if_neg (by decide), if_neg (by decide)] at hT
              subst hT
              go_wp2
              go_ret
              exact ⟨w.heap.size, rfl, hrow, hB, Nat.le_refl _⟩
end Go.Proofs.YtgbnlaalfebaeaaGreatDoor.Rep
