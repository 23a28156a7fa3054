import Derived.Test.YtgbnlaalfebaeaaGreatDoorBuild
import Derived.Lib.ConvBytes
import Derived.Laws.BytesArg
import Derived.Lib.LazyBuf
import Derived.Lib.AtoiErrMem
/-! (*byteReplacer).Replace over the table that exchanges T and t. -/
namespace Go.Proofs.YtgbnlaalfebaeaaGreatDoor.Rep
open Go.RowKit Go.Proofs.YtgbnlaalfebaeaaGreatDoorW.PrintWords Go.Proofs.YtgbnlaalfebaeaaGreatDoorW.PrintLast

def mpI (n : Int) : Int := if n = 84 then 116 else if n = 116 then 84 else n
theorem tabM_get (i : Nat) (h : i < 256) : tabM[i]? = some (.int .u8 (mpI i)) := by
  unfold tabM mpI
  rw [Array.getElem?_setIfInBounds, Array.getElem?_setIfInBounds, Array.size_setIfInBounds, tabC_size]
  by_cases h1 : 84 = i
  · subst h1; rfl
  · rw [if_neg h1]
    by_cases h2 : 116 = i
    · subst h2; rfl
    · rw [if_neg h2, tabC_get _ i h, if_pos h, if_neg (by omega), if_neg (by omega)]
/-- The text with T for t and t for T. -/
def mirT (s : ByteArray) : ByteArray := strOfNums ((bytesOf s).map mpI)

theorem bytesOf_getD (s : ByteArray) (i : Nat) (hi : i < s.size) : (bytesOf s)[i]? = some (bt s (i : Int)) := by
  have hi' : i < s.data.toList.length := hi
  rw [← bt_at s (i : Int) hi]
  unfold bytesOf
  rw [List.getElem?_map, List.getElem?_eq_getElem hi']
  simp
  rfl
theorem strOf_bytesOf (s : ByteArray) : strOfNums (bytesOf s) = s := by
  apply ByteArray.ext
  apply Array.toList_inj.1
  rw [strOfNums_data]
  unfold bytesOf
  rw [List.map_map]
  conv => rhs; rw [← List.map_id s.data.toList]
  apply List.map_congr_left
  intro c _
  simp
theorem mirT_id (s : ByteArray) (h : ∀ i : Nat, i < s.size → mpI (bt s i) = bt s i) : mirT s = s := by
  have e : (bytesOf s).map mpI = bytesOf s := by
    apply List.ext_getElem?
    intro i
    rw [List.getElem?_map]
    by_cases hi : i < s.size
    · rw [bytesOf_getD s i hi, Option.map_some, h i hi]
    · rw [List.getElem?_eq_none (by rw [bytesOf_length]; omega)]; rfl
  unfold mirT
  rw [e, strOf_bytesOf]

set_option maxRecDepth 100000 in
set_option maxHeartbeats 4000000 in
theorem rep_calls (g : Nat) (s : ByteArray) (w : World) (hg : w.heap[g]? = some (.cells tabM 127 (0, 0))) (hs : s.size ≤ 9223372036854775807) :
    Calls Tryz.prog 138 #[.pointer (some ⟨g, 0, none⟩), .string s] w fun e w' => e = .returned (.string (mirT s)) ∧ Below w.heap.size w w' := by
  have q1 := fun (w : World) (a : Option Addr) (n c : Nat) => Go.run_eql_slice_nil (P := Tryz.prog) w 22 5 a n c Tryz.underlying22
  go_enter Tryz.func138, Tryz.ntmps138
  go_wp2
  go_loopg [5, 6] s.size (fun kq v5 v6 w' => ∃ j : Nat, v6 = .int .i64 (j : Int) ∧ j + kq = s.size ∧ Below w.heap.size w w' ∧ ((v5 = .slice none 0 0 ∧ ∀ i : Nat, i < j → mpI (bt s i) = bt s i) ∨ ∃ h c, v5 = .slice (some ⟨h, 0, none⟩) s.size c ∧ w.heap.size ≤ h ∧ (∀ i : Nat, i < s.size → w'.cell? ⟨h, i, none⟩ = some (.int .u8 (if i < j then mpI (bt s i) else bt s i))) ∧ ∀ i : Nat, i < s.size → w'.frozen? ⟨h, i, none⟩ = false))
  case atStart => exact ⟨0, rfl, by omega, Below.refl _ _, .inl ⟨rfl, fun i hi => by omega⟩⟩
  case round =>
    obtain ⟨j, rfl, hj, hB, hbuf⟩ := hrel
    have hgr : wr.heap[g]? = some (.cells tabM 127 (0, 0)) := (hB.block g (blk_lt hg)).trans hg
    by_cases hlt : j < s.size
    · obtain ⟨kq, rfl⟩ : ∃ q, gk = q + 1 := ⟨gk - 1, by omega⟩
      have c0 : decide ((j : Int) < (s.size : Int)) = true := decide_eq_true (by omega)
      have c1 : (0 ≤ (j : Int)) = True := eq_true (by omega)
      have c2 : ((j : Int) < (s.size : Int)) = True := eq_true (by omega)
      have hx : bt s (j : Int) = ((s[j].toNat : Nat) : Int) := (bt_at s (j : Int) hlt).symm
      have hlt8 : s[j].toNat < 256 := UInt8.toNat_lt _
      have c4 : (((s[j].toNat : Nat) : Int) < 256) = True := eq_true (by omega)
      have ht : wr.cell? ⟨g, s[j].toNat, none⟩ = some (.int .u8 (mpI ((s[j].toNat : Nat) : Int))) := (blk_cell hgr _).trans (tabM_get _ hlt8)
      by_cases hq : mpI ((s[j].toNat : Nat) : Int) = ((s[j].toNat : Nat) : Int)
      · have d0 : (mpI ((s[j].toNat : Nat) : Int) != ((s[j].toNat : Nat) : Int)) = false := by simp [hq]
        go_wp2
        go_roundg kq
        case measure => omega
        case rel =>
          refine ⟨j + 1, by rfl, by omega, hB, ?_⟩
          rcases hbuf with ⟨hv, hA⟩ | ⟨h, c, hv, hh, hC, hF⟩
          · exact .inl ⟨hv, fun i hi => by
              by_cases e : i = j
              · rw [e, hx]; exact hq
              · exact hA i (by omega)⟩
          · refine .inr ⟨h, c, hv, hh, fun i hi => ?_, hF⟩
            rw [hC i hi]
            by_cases e : i = j
            · subst e; rw [if_neg (by omega), if_pos (by omega), hx, hq]
            · by_cases e2 : i < j
              · rw [if_pos e2, if_pos (by omega)]
              · rw [if_neg e2, if_neg (by omega)]
      · have d0 : (mpI ((s[j].toNat : Nat) : Int) != ((s[j].toNat : Nat) : Int)) = true := by simp [hq]
        rcases hbuf with ⟨rfl, hA⟩ | ⟨h, c, rfl, hh, hC, hF⟩
        · have hcv := Go.Lib.run_convert_string_bytes (P := Tryz.prog) wr 9 22 5 s Tryz.underlying9 Tryz.underlying22 Tryz.underlying5
          have hbel : Below w.heap.size w (Go.Lib.bytesWorld wr 5 s) := below_step hB (Go.Lib.bytesWorld_below wr 5 s)
          have hg2 : (Go.Lib.bytesWorld wr 5 s).heap[g]? = some (.cells tabM 127 (0, 0)) := (hbel.block g (blk_lt hg)).trans hg
          have ht2 : (Go.Lib.bytesWorld wr 5 s).cell? ⟨g, s[j].toNat, none⟩ = some (.int .u8 (mpI ((s[j].toNat : Nat) : Int))) := (blk_cell hg2 _).trans (tabM_get _ hlt8)
          have hcl := fun (i : Nat) (hi : i < s.size) => Go.Lib.bytesWorld_cell wr 5 s i hi
          have hfr : ∀ i : Nat, i < s.size → (Go.Lib.bytesWorld wr 5 s).frozen? ⟨wr.heap.size, i, none⟩ = false := by
            intro i hi
            have hsz : s.size ≤ (Go.Lib.bytesCells wr 5 s).size := by simp [Go.Lib.bytesCells]
            simp [World.frozen?, Go.Lib.bytesWorld_at_new]
            omega
          have h1 := hcl j hlt
          have h2 := hfr j hlt
          go_wp2
          go_roundg kq
          case measure => omega
          case rel =>
            have hwle : w.heap.size ≤ wr.heap.size := hB.size
            refine ⟨j + 1, by rfl, by omega, below_set hbel hwle, .inr ⟨wr.heap.size, _, rfl, hwle, fun i hi => ?_, fun i hi => by simpa using hfr i hi⟩⟩
            by_cases e : i = j
            · subst e
              rw [if_pos (by omega), hx]
              exact World.cell?_setCell_same _ _ _ h1
            · rw [World.cell?_setCell_other _ ⟨wr.heap.size, j, none⟩ ⟨wr.heap.size, i, none⟩ _ (by simp <;> exact fun h => e h.symm), hcl i hi]
              have hbt : bt s (i : Int) = (((s.data.toList.getD i 0).toNat : Nat) : Int) := by
                rw [← bt_at s (i : Int) hi]
                have hi' : i < s.data.toList.length := hi
                simp [List.getD_eq_getElem?_getD, List.getElem?_eq_getElem hi']
                rfl
              rw [← hbt]
              by_cases e2 : i < j
              · rw [if_pos (by omega), hA i e2]
              · rw [if_neg (by omega)]
        · have h1 := hC j hlt
          have h2 := hF j hlt
          go_wp2
          go_roundg kq
          case measure => omega
          case rel =>
            refine ⟨j + 1, by rfl, by omega, below_set hB hh, .inr ⟨h, c, rfl, hh, fun i hi => ?_, fun i hi => by simpa using hF i hi⟩⟩
            by_cases e : i = j
            · subst e
              rw [if_pos (by omega), hx]
              exact World.cell?_setCell_same _ _ _ h1
            · rw [World.cell?_setCell_other _ ⟨h, j, none⟩ ⟨h, i, none⟩ _ (by simp <;> exact fun h => e h.symm), hC i hi]
              by_cases e2 : i < j
              · rw [if_pos e2, if_pos (by omega)]
              · rw [if_neg e2, if_neg (by omega)]
    · obtain rfl : j = s.size := by omega
      have c0 : decide ((s.size : Int) < (s.size : Int)) = false := decide_eq_false (by omega)
      rcases hbuf with ⟨rfl, hA⟩ | ⟨h, c, rfl, hh, hC, hF⟩
      · go_wp2
        go_ret
        exact ⟨by rw [mirT_id s hA]; rfl, hB⟩
      · have hcb := run_convert_bytes_arg (P := Tryz.prog) wr 22 5 Tryz.underlying22 Tryz.underlying5 h 0 s.size c ((bytesOf s).map mpI) (by rw [List.length_map, bytesOf_length]) (fun i hi => by
          rw [Nat.zero_add, hC i hi, if_pos hi, List.getD_eq_getElem?_getD, List.getElem?_map, bytesOf_getD s i hi]; rfl) 9 Tryz.underlying9
        go_wp2
        go_ret
        exact ⟨rfl, hB⟩
end Go.Proofs.YtgbnlaalfebaeaaGreatDoor.Rep
