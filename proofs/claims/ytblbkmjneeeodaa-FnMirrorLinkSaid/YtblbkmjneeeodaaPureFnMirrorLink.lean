/- FnMirrorLink: MirrorLink answers as the reference's does; twice it is the link, mirrors of the same links are the same, and it is the link of the mirror of the fraction of both numbers; at every draw. -/
import Derived.Test.YtblbkmjneeeodaaPFnMirrorLinkx0
import Derived.Test.YtblbkmjneeeodaaPFnMirrorLinkx1
import Derived.Test.YtblbkmjneeeodaaPFnMirrorLinkx2
import Derived.Test.YtblbkmjneeeodaaPFnMirrorLinkx3
import Derived.Test.YtblbkmjneeeodaaPFnMirrorLinkx4
import Derived.Test.YtblbkmjneeeodaaPFnMirrorLinkx5
import Derived.Test.YtblbkmjneeeodaaPFnMirrorLinkx6
import Derived.Test.YtblbkmjneeeodaaCFnMirrorLink
set_option linter.unusedVariables false
set_option linter.unusedSimpArgs false
namespace Go.Proofs.Ytblbkmjneeeodaa.Pure
open Go.RowKit Go.Proofs.Ytblbkmjneeeodaa.PFnMirrorLink Go.Proofs.YtblbkmjneeeodaaW.PrintWords Go.Proofs.YtblbkmjneeeodaaW.PrintLast Go.Proofs.YtblbkmjneeeodaaW.PrintMore

-- base
theorem wrap64_in {n : Int} (h : -9223372036854775808 ≤ n) (h' : n ≤ 9223372036854775807) : wrap64 n = n := by unfold wrap64; omega
theorem i64_of_wf {n : Int} (h : (Lit.int .i64 n).wf = true) : -9223372036854775808 ≤ n ∧ n ≤ 9223372036854775807 := by
  simpa [Lit.wf, IntKind.min, IntKind.max, IntKind.signed, IntKind.bits] using h
theorem bigk : ∃ k : Nat, 1000000000 ≤ k := ⟨1000000000, Nat.le_refl _⟩
theorem dec_true {p : Prop} [Decidable p] (h : p) : some (decide p) = some true := by simp [h]
theorem dec_false {p : Prop} [Decidable p] (h : ¬ p) : some (decide p) = some false := by simp [h]
theorem dec_iff {p q : Prop} [Decidable p] [Decidable q] (h : p ↔ q) : some (decide p) = some (decide q) := by simp [h]
theorem ite_to {c : Prop} [Decidable c] {α : Type} {x y z : α} (h1 : c → x = z) (h2 : ¬ c → y = z) : (if c then x else y) = z := by
  by_cases h : c
  · rw [if_pos h]; exact h1 h
  · rw [if_neg h]; exact h2 h

-- gcdmath
theorem natAbs_tmod_lt (a : Int) {b : Int} (h : b ≠ 0) : (Int.tmod a b).natAbs < b.natAbs := by
  rw [Int.natAbs_tmod]
  exact Nat.mod_lt _ (by omega)
theorem gcd_tmod (a b : Int) : Int.gcd b (Int.tmod a b) = Int.gcd a b := by
  unfold Int.gcd
  rw [Int.natAbs_tmod, Nat.gcd_comm a.natAbs, Nat.gcd_rec b.natAbs a.natAbs, Nat.gcd_comm]
theorem mx_abs {a : Int} (h : -9223372036854775808 < a) (h' : a ≤ 9223372036854775807) : mx a (wrap64 (-a)) = (a.natAbs : Int) := by
  rw [wrap64_in (by omega) (by omega)]; unfold mx; split <;> omega

-- draw
/-- The bytes that a draw reads. -/
def RdOk (s : List Int) : Prop := s.length ≤ 2000 ∧ ∀ x ∈ s, 0 ≤ x ∧ x ≤ 255
theorem rd_bd {s : List Int} (h : RdOk s) (i : Int) : 0 ≤ rd s i ∧ rd s i ≤ 255 := by
  unfold rd
  by_cases hi : i.toNat < s.length
  · have e : s.getD i.toNat 0 = s[i.toNat] := by simp [hi]
    rw [e]; exact h.2 _ (List.getElem_mem hi)
  · have e : s.getD i.toNat 0 = 0 := by simp; rw [List.getElem?_eq_none (by omega)]; rfl
    rw [e]; omega
theorem xor_nonneg {x y : Int} (hx : 0 ≤ x) (hx' : x < 4611686018427387904) (hy : 0 ≤ y) (hy' : y < 4611686018427387904) : 0 ≤ Go.bits .xor .i64 x y := by
  unfold Go.bits
  simp only
  obtain ⟨a, rfl⟩ := Int.eq_ofNat_of_zero_le hx
  obtain ⟨b, rfl⟩ := Int.eq_ofNat_of_zero_le hy
  have h64 : IntKind.i64.bits = 64 := rfl
  rw [BitVec.toNat_xor]
  have ea : (BitVec.ofInt IntKind.i64.bits (a : Int)).toNat = a := by
    rw [BitVec.toNat_ofInt, h64]; omega
  have eb : (BitVec.ofInt IntKind.i64.bits (b : Int)).toNat = b := by
    rw [BitVec.toNat_ofInt, h64]; omega
  rw [ea, eb]
  have hl : a ^^^ b < 2 ^ 62 := Nat.xor_lt_two_pow (by omega) (by omega)
  generalize a ^^^ b = c at *
  have : IntKind.i64.wrap (c : Int) = wrap64 (c : Int) := by
    simp [IntKind.wrap, wrap64, IntKind.signed, IntKind.bits]
    try omega
  rw [this, wrap64_in (by omega) (by omega)]
  omega
theorem tmod_range {x n : Int} (hx : 0 ≤ x) (hn : 1 ≤ n) : 0 ≤ Int.tmod x n ∧ Int.tmod x n < n := by
  rw [Int.tmod_eq_emod_of_nonneg hx]
  exact ⟨Int.emod_nonneg _ (by omega), Int.emod_lt_of_pos _ (by omega)⟩
theorem pick_f {s : List Int} {p : Int} (n : Int) {k : Nat} (hs : RdOk s) (hp : 0 ≤ p) (hp' : p ≤ 1000000) (hk : 1 ≤ k) :
    ∃ v, spec_l20Rd_pick.f k s p n = some (v, p + 1) ∧ 0 ≤ v ∧ (1 ≤ n → v < n) ∧ (n < 1 → v = 0) := by
  obtain ⟨k, rfl⟩ : ∃ m, k = m + 1 := ⟨k - 1, by omega⟩
  unfold spec_l20Rd_pick.f
  rw [wrap64_in (n := p + 1) (by omega) (by omega)]
  by_cases hn : n < 1
  · rw [if_pos hn]; simp only [spec_l20Rd_pick.j0]; rw [if_pos trivial]
    exact ⟨0, rfl, by omega, by omega, fun _ => rfl⟩
  · rw [if_neg hn]
    by_cases hl : (s.length : Int) = 0
    · rw [show ((s.length : Int) == 0) = true by simpa using hl]; simp only [spec_l20Rd_pick.j0]; rw [if_pos trivial]
      exact ⟨0, rfl, by omega, by omega, fun _ => rfl⟩
    · rw [show ((s.length : Int) == 0) = false by simpa using hl]; simp only [spec_l20Rd_pick.j0]; rw [if_neg (by decide)]
      have hlen := hs.1
      rw [show p + 1 - 1 = p by omega, wrap64_in (n := p) (by omega) (by omega)]
      by_cases h1 : p < (s.length : Int)
      · have hb := rd_bd hs p
        rw [if_pos h1, if_pos hp, if_neg (by omega), wrap64_in (by omega) (by omega)]
        have ht := tmod_range (n := n) hb.1 (by omega)
        exact ⟨_, rfl, ht.1, fun _ => ht.2, fun x => absurd x hn⟩
      · have t1 := tmod_range (x := p) (n := (s.length : Int)) hp (by omega)
        have t2 := tmod_range (x := p * 7 + 3) (n := (s.length : Int)) (by omega) (by omega)
        rw [if_neg h1, if_neg hl, if_pos t1.1, if_pos t1.2, wrap64_in (n := p * 7) (by omega) (by omega), wrap64_in (n := p * 7 + 3) (by omega) (by omega), if_pos t2.1, if_pos t2.2, if_neg (by omega)]
        have b1 := rd_bd hs (Int.tmod p (s.length : Int))
        have b2 := rd_bd hs (Int.tmod (p * 7 + 3) (s.length : Int))
        generalize rd s (Int.tmod p (s.length : Int)) = r1 at *
        generalize rd s (Int.tmod (p * 7 + 3) (s.length : Int)) = r2 at *
        have q1 : 0 ≤ Int.tdiv p (s.length : Int) ∧ Int.tdiv p (s.length : Int) ≤ p := by
          obtain ⟨a, rfl⟩ := Int.eq_ofNat_of_zero_le hp
          rw [Int.tdiv_eq_ediv_of_nonneg (by omega), ← Int.natCast_ediv]
          have := Nat.div_le_self a s.length
          exact ⟨Int.natCast_nonneg _, by exact_mod_cast this⟩
        generalize Int.tdiv p (s.length : Int) = q at *
        rw [wrap64_in (n := r1) (by omega) (by omega), wrap64_in (n := r1 * 131) (by omega) (by omega), wrap64_in (n := r2) (by omega) (by omega), wrap64_in (n := r2 * 1117) (by omega) (by omega), wrap64_in (n := r1 * 131 + r2 * 1117) (by omega) (by omega), wrap64_in (n := p * 29) (by omega) (by omega), wrap64_in (n := q) (by omega) (by omega), wrap64_in (n := q * 53) (by omega) (by omega), wrap64_in (n := r1 * 131 + r2 * 1117 + p * 29) (by omega) (by omega), wrap64_in (n := r1 * 131 + r2 * 1117 + p * 29 + q * 53) (by omega) (by omega)]
        generalize hX : r1 * 131 + r2 * 1117 + p * 29 + q * 53 = X
        have hX0 : 0 ≤ X := by omega
        have hX1 : X ≤ 1000000000 := by omega
        have d1 : 0 ≤ Int.tdiv X 64 ∧ Int.tdiv X 64 ≤ X := by
          rw [Int.tdiv_eq_ediv_of_nonneg hX0]; omega
        rw [wrap64_in (n := Int.tdiv X 64) (by omega) (by omega)]
        have hx := xor_nonneg (x := X) (y := Int.tdiv X 64) hX0 (by omega) d1.1 (by omega)
        have ht := tmod_range (n := n) hx (by omega)
        exact ⟨_, rfl, ht.1, fun _ => ht.2, fun x => absurd x hn⟩

-- open
theorem u8_of_wf {n : Int} (h : (Lit.int .u8 n).wf = true) : 0 ≤ n ∧ n ≤ 255 := by
  simpa [Lit.wf, IntKind.min, IntKind.max, IntKind.signed, IntKind.bits] using h
theorem open_f {l : List Int} (h : ∀ x ∈ l, (Lit.int .u8 x).wf = true) : ∃ s, spec_l20Open.f l = some (s, 0) ∧ RdOk s := by
  unfold spec_l20Open.f
  by_cases hl : (l.length : Int) > 2000
  · rw [if_pos hl, if_pos (by omega)]
    exact ⟨_, rfl, by rw [List.length_take]; omega, fun x hx => u8_of_wf (h x (List.mem_of_mem_take hx))⟩
  · rw [if_neg hl]
    exact ⟨_, rfl, by omega, fun x hx => u8_of_wf (h x hx)⟩

-- odd
theorem odd_f {s : List Int} {p : Int} (n : Int) {k : Nat} (hs : RdOk s) (hp : 0 ≤ p) (hp' : p ≤ 1000000) (hk : 1 ≤ k) :
    ∃ v q, spec_l20Rd_odd.f k s p n = some (v, q) ∧ p ≤ q ∧ q ≤ p + 1 := by
  unfold spec_l20Rd_odd.f
  by_cases h : n > 0
  · rw [if_pos h]
    obtain ⟨v, hv, _⟩ := pick_f n hs hp hp' hk
    rw [hv]; simp only [Option.bind_some]
    exact ⟨_, _, rfl, by omega, by omega⟩
  · rw [if_neg h]; exact ⟨_, _, rfl, by omega, by omega⟩

-- frac
/-- A fraction in lowest terms, as FractionOk tells it. -/
def Frac (a b : Int) : Prop := (-1000000 ≤ a ∧ a ≤ 1000000) ∧ (0 ≤ b ∧ b ≤ 1000000) ∧ Int.gcd a b = 1 ∧ (b = 0 → a = 1)
instance (a b : Int) : Decidable (Frac a b) := by unfold Frac; infer_instance

-- linkofmath
/-- What LinkOf answers. -/
def linkofv (a b : Int) : Int × Int × Bool :=
  if Frac a b ∧ (-60 ≤ a ∧ a ≤ 60) then
    if a = 0 then (0, 1, true) else if a < 0 then ((a.natAbs : Int), ((a.natAbs : Int) - b % a.natAbs) % a.natAbs, true) else (a, b % a, true)
  else (0, 0, false)
theorem linkof_value {a b : Int} (h : Frac a b) (ha : -60 ≤ a ∧ a ≤ 60) (h0 : a ≠ 0) :
    (if (mx a (wrap64 (-a))) = 0 then (none : Option (Int × Int × Bool)) else (if a < 0 then (some (mx a (wrap64 (-a)), Int.tmod (wrap64 ((mx a (wrap64 (-a))) - (Int.tmod b (mx a (wrap64 (-a)))))) (mx a (wrap64 (-a))), true)) else (some (mx a (wrap64 (-a)), Int.tmod b (mx a (wrap64 (-a))), true))))
      = some (linkofv a b) := by
  unfold linkofv
  rw [if_pos (show Frac a b ∧ (-60 ≤ a ∧ a ≤ 60) from ⟨h, ha⟩), mx_abs (by omega) (by omega), if_neg h0, if_neg (by omega)]
  have hb := h.2.1
  have e1 : Int.tmod b (a.natAbs : Int) = b % (a.natAbs : Int) := Int.tmod_eq_emod_of_nonneg (by omega)
  have r1 := Int.emod_nonneg b (show ((a.natAbs : Nat) : Int) ≠ 0 by omega)
  have r2 := Int.emod_lt_of_pos b (show (0 : Int) < (a.natAbs : Int) by omega)
  rw [e1]
  by_cases hn : a < 0
  · rw [if_pos hn, if_pos hn, wrap64_in (by omega) (by omega), Int.tmod_eq_emod_of_nonneg (by omega)]
  · rw [if_neg hn, if_neg hn]
    have : ((a.natAbs : Nat) : Int) = a := by omega
    rw [this]

-- spec_l1In
theorem spec_l1In_f (a b c : Int) : spec_l1In.f a b c = some (decide (b ≤ a ∧ a ≤ c)) := by
  unfold spec_l1In.f
  by_cases h : b ≤ a
  · rw [if_pos h]; exact dec_iff ⟨fun x => ⟨h, x⟩, fun x => x.2⟩
  · rw [if_neg h]; exact (dec_false (fun x => h x.1)).symm

-- spec_l1Common
theorem spec_l1Common_l0 (n : Nat) : ∀ (a b : Int), b.natAbs ≤ n → 0 ≤ a → 0 ≤ b → ∀ k, n < k → spec_l1Common.l0 k a b = some (Int.gcd a b : Int) := by
  induction n with
  | zero =>
    intro a b hb ha _ k hk
    obtain ⟨k, rfl⟩ : ∃ m, k = m + 1 := ⟨k - 1, by omega⟩
    obtain rfl : b = 0 := by omega
    simp only [spec_l1Common.l0]
    rw [if_neg (by omega), Int.gcd_zero_right]
    congr 1; omega
  | succ n ih =>
    intro a b hb ha hb' k hk
    obtain ⟨k, rfl⟩ : ∃ m, k = m + 1 := ⟨k - 1, by omega⟩
    simp only [spec_l1Common.l0]
    by_cases h : b = 0
    · subst h; rw [if_neg (by omega), Int.gcd_zero_right]; congr 1; omega
    · have := natAbs_tmod_lt a h
      rw [if_pos (by omega), if_neg h, ih b (Int.tmod a b) (by omega) hb' (Int.tmod_nonneg _ ha) k (by omega), gcd_tmod]
theorem spec_l1Common_f {a b : Int} {k : Nat} (ha : a.natAbs ≤ 9223372036854775807) (hb : b.natAbs ≤ 9223372036854775807) (hk : b.natAbs < k) : spec_l1Common.f k a b = some (Int.gcd a b : Int) := by
  unfold spec_l1Common.f
  rw [mx_abs (by omega) (by omega), mx_abs (by omega) (by omega), spec_l1Common_l0 b.natAbs _ _ (by omega) (by omega) (by omega) k hk]
  rfl

-- spec_FractionOk
theorem spec_FractionOk_f (a b : Int) {k : Nat} (hk : 1000001 ≤ k) : spec_FractionOk.f k a b = some (decide (Frac a b)) := by
  unfold spec_FractionOk.f
  rw [spec_l1In_f]; simp only [Option.bind_some, decide_eq_true_eq]
  by_cases h1 : -1000000 ≤ a ∧ a ≤ 1000000
  · rw [if_pos h1, spec_l1In_f]; simp only [Option.bind_some, decide_eq_true_eq]
    by_cases h2 : 0 ≤ b ∧ b ≤ 1000000
    · rw [if_pos h2, spec_l1Common_f (by omega) (by omega) (by omega)]; simp only [Option.bind_some]
      by_cases h3 : Int.gcd a b = 1
      · rw [if_pos (by omega)]
        by_cases h4 : b > 0
        · rw [if_pos h4]; exact (dec_true ⟨h1, h2, h3, by omega⟩).symm
        · rw [if_neg h4]
          by_cases h5 : a = 1
          · rw [(dec_true ⟨h1, h2, h3, fun _ => h5⟩ : some (decide (Frac a b)) = _)]; simp [h5]
          · rw [(dec_false (fun x => h5 (x.2.2.2 (by omega))) : some (decide (Frac a b)) = _)]; simp [h5]
      · rw [if_neg (by omega)]; exact (dec_false (fun x => h3 x.2.2.1)).symm
    · rw [if_neg h2]; exact (dec_false (fun x => h2 x.2.1)).symm
  · rw [if_neg h1]; exact (dec_false (fun x => h1 x.1)).symm

-- spec_LinkOf
theorem spec_LinkOf_f (a b : Int) {k : Nat} (hk : 1000002 ≤ k) : spec_LinkOf.f k a b = some (linkofv a b) := by
  obtain ⟨k, rfl⟩ : ∃ m, k = m + 1 := ⟨k - 1, by omega⟩
  unfold spec_LinkOf.f
  rw [spec_FractionOk_f _ _ (by omega)]; simp only [spec_l1In_f, Option.bind_some, decide_eq_true_eq]
  have no : ¬ (Frac a b ∧ (-60 ≤ a ∧ a ≤ 60)) → spec_LinkOf.j0 (k + 1) true a b = some (linkofv a b) := by
    intro h; simp only [spec_LinkOf.j0]; rw [if_pos trivial]; unfold linkofv; rw [if_neg h]
  by_cases h : Frac a b
  · rw [if_pos h]
    by_cases h2 : -60 ≤ a ∧ a ≤ 60
    · rw [decide_eq_true h2]; simp only [spec_LinkOf.j0]; rw [if_neg (by decide)]
      by_cases h0 : a = 0
      · rw [if_pos h0]; unfold linkofv; rw [if_pos ⟨h, by omega⟩, if_pos h0]
      · rw [if_neg h0]; exact linkof_value h (by omega) h0
    · rw [decide_eq_false h2]; exact no (fun x => h2 x.2)
  · rw [if_neg h]; exact no (fun x => h x.1)

-- drawlink
def DrawnL (a b : Int) : Prop := a.natAbs ≤ 100 ∧ b.natAbs ≤ 100
theorem linkofv_bd (a b : Int) : DrawnL (linkofv a b).1 (linkofv a b).2.1 := by
  unfold linkofv DrawnL
  split
  · rename_i h
    split
    · simp
    · rename_i h0
      split
      · have r1 := Int.emod_nonneg ((a.natAbs : Int) - b % (a.natAbs : Int)) (show ((a.natAbs : Nat) : Int) ≠ 0 by omega)
        have r2 := Int.emod_lt_of_pos ((a.natAbs : Int) - b % (a.natAbs : Int)) (show (0 : Int) < (a.natAbs : Int) by omega)
        simp only
        omega
      · have r1 := Int.emod_nonneg b h0
        have r2 := Int.emod_lt_of_pos b (show (0 : Int) < a by omega)
        simp only
        omega
  · simp
theorem l20Link_f {s : List Int} {p : Int} (n : Int) {k : Nat} (hs : RdOk s) (hp : 0 ≤ p) (hp' : p ≤ 900000) (hk : 1000005 ≤ k) :
    ∃ a b q, spec_l20Link.f k s p n = some (a, b, q) ∧ DrawnL a b ∧ p ≤ q ∧ q ≤ p + 6 := by
  obtain ⟨k, rfl⟩ : ∃ m, k = m + 2 := ⟨k - 2, by omega⟩
  unfold spec_l20Link.f
  obtain ⟨v1, h1, a1, b1, _⟩ := pick_f (k := k + 2) 14 hs hp (by omega) (by omega)
  have b1 := b1 (by omega)
  rw [h1]; simp only [Option.bind_some]
  obtain ⟨v2, h2, a2, b2, _⟩ := pick_f (k := k + 2) (p := p + 1) 61 hs (by omega) (by omega) (by omega)
  have b2 := b2 (by omega)
  rw [h2]; simp only [Option.bind_some]
  obtain ⟨v3, h3, a3, b3, _⟩ := pick_f (k := k + 2) (p := p + 1 + 1) 2 hs (by omega) (by omega) (by omega)
  have b3 := b3 (by omega)
  rw [h3]; simp only [Option.bind_some]
  rw [if_pos a3, if_pos (by simpa using b3)]
  have hm : 0 ≤ rd ([v1, v2] : List Int) v3 ∧ rd ([v1, v2] : List Int) v3 ≤ 60 := by
    obtain ⟨m, rfl⟩ := Int.eq_ofNat_of_zero_le a3
    have : m = 0 ∨ m = 1 := by omega
    rcases this with rfl | rfl
    · show 0 ≤ v1 ∧ v1 ≤ 60; omega
    · show 0 ≤ v2 ∧ v2 ≤ 60; omega
  generalize rd ([v1, v2] : List Int) v3 = m at *
  rw [spec_LinkOf_f _ _ (by omega)]; simp only [Option.bind_some]
  have hj1 : ∀ x1 q a b, DrawnL a b → p ≤ q → q ≤ p + 4 → ∃ a' b' q', spec_l20Link.j1 (k + 1) x1 s q a b = some (a', b', q') ∧ DrawnL a' b' ∧ p ≤ q' ∧ q' ≤ p + 6 := by
    intro x1 q a b hab q0 q1
    simp only [spec_l20Link.j1]
    obtain ⟨o, q', ho, q2, q3⟩ := odd_f (k := k) (p := q) x1 hs (by omega) (by omega) (by omega)
    rw [ho]; simp only [Option.bind_some]
    by_cases hc : o = true
    · rw [if_pos hc]
      obtain ⟨w, hw, w0, w1, _⟩ := pick_f (k := k) (p := q') 5 hs (by omega) (by omega) (by omega)
      have w1 := w1 (by omega)
      rw [hw]; simp only [Option.bind_some]
      rw [if_pos w0, if_pos (by simpa using w1)]
      refine ⟨_, _, _, rfl, ?_, by omega, by omega⟩
      obtain ⟨m, rfl⟩ := Int.eq_ofNat_of_zero_le w0
      have : m = 0 ∨ m = 1 ∨ m = 2 ∨ m = 3 ∨ m = 4 := by omega
      rcases this with rfl | rfl | rfl | rfl | rfl <;> (unfold DrawnL; decide)
    · rw [if_neg hc]; exact ⟨_, _, _, rfl, hab, by omega, by omega⟩
  have hj0 : ∀ x1 t q a b, DrawnL a b → p ≤ q → q ≤ p + 4 → ∃ a' b' q', spec_l20Link.j0 (k + 2) x1 t s q a b = some (a', b', q') ∧ DrawnL a' b' ∧ p ≤ q' ∧ q' ≤ p + 6 := by
    intro x1 t q a b hab q0 q1
    simp only [spec_l20Link.j0]
    split
    · exact hj1 x1 q a b hab q0 q1
    · exact hj1 x1 q 0 1 (by unfold DrawnL; decide) q0 q1
  have hl := linkofv_bd m 1
  split
  · rename_i hm1
    rw [wrap64_in (n := m - 1) (by omega) (by omega)]
    obtain ⟨v4, h4, a4, b4, _⟩ := pick_f (k := k + 2) (p := p + 1 + 1 + 1) (m - 1) hs (by omega) (by omega) (by omega)
    have b4 := b4 (by omega)
    rw [h4]; simp only [Option.bind_some]
    rw [wrap64_in (n := 1 + v4) (by omega) (by omega), spec_l1Common_f (by omega) (by omega) (by omega)]; simp only [Option.bind_some]
    split
    · exact hj0 _ _ _ _ _ ⟨by omega, by omega⟩ (by omega) (by omega)
    · exact hj0 _ _ _ _ _ hl (by omega) (by omega)
  · exact hj0 _ _ _ _ _ hl (by omega) (by omega)

-- link
/-- A link as LinkOk tells it. -/
def LinkP (a b : Int) : Prop := (a = 0 ∧ b = 1) ∨ (a = 1 ∧ b = 0) ∨ ((2 ≤ a ∧ a ≤ 60) ∧ (1 ≤ b ∧ b < a) ∧ Int.gcd a b = 1)
instance (a b : Int) : Decidable (LinkP a b) := by unfold LinkP; infer_instance
theorem linkP_zero (b : Int) : LinkP 0 b ↔ b = 1 := by unfold LinkP; omega
theorem linkP_one (b : Int) : LinkP 1 b ↔ b = 0 := by unfold LinkP; omega
theorem linkP_more {a b : Int} (h : a ≠ 0) (h' : a ≠ 1) : LinkP a b ↔ ((2 ≤ a ∧ a ≤ 60) ∧ (1 ≤ b ∧ b < a) ∧ Int.gcd a b = 1) := by
  unfold LinkP; constructor
  · rintro (x | x | x)
    · exact absurd x.1 h
    · exact absurd x.1 h'
    · exact x
  · exact fun x => .inr (.inr x)
theorem linkP_range {a b : Int} (h : LinkP a b) : 0 ≤ a ∧ a ≤ 60 ∧ 0 ≤ b ∧ b ≤ 59 := by
  unfold LinkP at h; omega
theorem gcd_beq (a b : Int) : (((Int.gcd a b : Nat) : Int) == 1) = decide (Int.gcd a b = 1) := by
  rw [Bool.eq_iff_iff]; simp; omega

-- mirlink
def mirlinkv (a b : Int) : Int × Int := if a ≥ 2 then (a, a - b) else (a, b)
def mirlinkofv (a b : Int) : Int × Int × Bool := if LinkP a b then ((mirlinkv a b).1, (mirlinkv a b).2, true) else (0, 0, false)
theorem mirlink_ok {a b : Int} (h : LinkP a b) : LinkP (mirlinkv a b).1 (mirlinkv a b).2 := by
  unfold mirlinkv
  split
  · rename_i h2
    have x := (linkP_more (by omega) (by omega)).1 h
    refine (linkP_more (by simp; omega) (by simp; omega)).2 ⟨x.1, by simp; omega, ?_⟩
    simp only
    rw [show a - b = -b + a * 1 by omega, Int.gcd_add_mul_left_right]
    simpa using x.2.2
  · exact h

-- impl_mirrorLink
theorem impl_mirrorLink_f {a b : Int} (h : LinkP a b) : impl_mirrorLink.f a b = some (mirlinkv a b) := by
  unfold impl_mirrorLink.f mirlinkv
  have hr := linkP_range h
  split
  · rw [wrap64_in (by omega) (by omega)]
  · rfl

-- impl_gcd
theorem impl_gcd_l0 (n : Nat) : ∀ (a b : Int), b.natAbs ≤ n → a.natAbs ≤ 9223372036854775807 → b.natAbs ≤ 9223372036854775807 → ∀ k, n < k → impl_gcd.l0 k a b = some (Int.gcd a b : Int) := by
  induction n with
  | zero =>
    intro a b hb ha _ k hk
    obtain ⟨k, rfl⟩ : ∃ m, k = m + 1 := ⟨k - 1, by omega⟩
    obtain rfl : b = 0 := by omega
    simp only [impl_gcd.l0]
    rw [if_pos trivial, mx_abs (by omega) (by omega), Int.gcd_zero_right]
  | succ n ih =>
    intro a b hb ha hb' k hk
    obtain ⟨k, rfl⟩ : ∃ m, k = m + 1 := ⟨k - 1, by omega⟩
    simp only [impl_gcd.l0]
    by_cases h : b = 0
    · subst h; rw [if_pos rfl, mx_abs (by omega) (by omega), Int.gcd_zero_right]
    · have := natAbs_tmod_lt a h
      rw [if_neg h, ih b (Int.tmod a b) (by omega) hb' (by omega) k (by omega), gcd_tmod]
theorem impl_gcd_f {a b : Int} {k : Nat} (ha : a.natAbs ≤ 9223372036854775807) (hb : b.natAbs ≤ 9223372036854775807) (hk : b.natAbs < k) : impl_gcd.f k a b = some (Int.gcd a b : Int) :=
  impl_gcd_l0 b.natAbs a b (Nat.le_refl _) ha hb k hk

-- impl_isLink
theorem impl_isLink_f (a b : Int) {k : Nat} (hk : 1000 ≤ k) : impl_isLink.f k a b = some (decide (LinkP a b)) := by
  obtain ⟨k, rfl⟩ : ∃ m, k = m + 1 := ⟨k - 1, by omega⟩
  unfold impl_isLink.f
  by_cases h0 : a < 0
  · rw [if_pos h0]; simp only [impl_isLink.j0]; rw [if_pos trivial]
    exact (dec_false (fun x => by have := linkP_range x; omega)).symm
  · rw [if_neg h0]; simp only [impl_isLink.j0, decide_eq_true_eq]
    by_cases h1 : a > 60
    · rw [if_pos h1]; exact (dec_false (fun x => by have := linkP_range x; omega)).symm
    · rw [if_neg h1]
      by_cases h2 : a = 0
      · rw [if_pos h2]; subst h2; exact dec_iff (linkP_zero b).symm
      · rw [if_neg h2]
        by_cases h3 : a = 1
        · rw [if_pos h3]; subst h3; exact dec_iff (linkP_one b).symm
        · rw [if_neg h3]
          by_cases h4 : b ≥ 1
          · rw [if_pos h4]
            by_cases h5 : b < a
            · rw [if_pos h5, impl_gcd_f (by omega) (by omega) (by omega)]; simp only [Option.bind_some, gcd_beq]
              exact dec_iff ⟨fun x => (linkP_more h2 h3).2 ⟨by omega, by omega, x⟩, fun x => ((linkP_more h2 h3).1 x).2.2⟩
            · rw [if_neg h5]; exact (dec_false (fun x => by have := (linkP_more h2 h3).1 x; omega)).symm
          · rw [if_neg h4]; exact (dec_false (fun x => by have := (linkP_more h2 h3).1 x; omega)).symm

-- impl_MirrorLink
theorem impl_MirrorLink_f (a b : Int) {k : Nat} (hk : 1000 ≤ k) : impl_MirrorLink.f k a b = some (mirlinkofv a b) := by
  unfold impl_MirrorLink.f
  rw [impl_isLink_f _ _ hk]; simp only [Option.bind_some, decide_eq_true_eq]
  unfold mirlinkofv
  by_cases h : LinkP a b
  · rw [if_pos h, if_pos h, impl_mirrorLink_f h]; rfl
  · rw [if_neg h, if_neg h]

-- spec_LinkOk
theorem spec_LinkOk_f (a b : Int) {k : Nat} (hk : 1000 ≤ k) : spec_LinkOk.f k a b = some (decide (LinkP a b)) := by
  unfold spec_LinkOk.f
  by_cases h2 : a = 0
  · rw [if_pos h2]; subst h2; exact dec_iff (linkP_zero b).symm
  · rw [if_neg h2]
    by_cases h3 : a = 1
    · rw [if_pos h3]; subst h3; exact dec_iff (linkP_one b).symm
    · rw [if_neg h3, spec_l1In_f]; simp only [Option.bind_some, decide_eq_true_eq]
      by_cases h1 : 2 ≤ a ∧ a ≤ 60
      · rw [if_pos h1, spec_l1In_f, wrap64_in (by omega) (by omega)]; simp only [Option.bind_some, decide_eq_true_eq]
        by_cases h4 : 1 ≤ b ∧ b ≤ a - 1
        · rw [if_pos h4, spec_l1Common_f (by omega) (by omega) (by omega)]; simp only [Option.bind_some, gcd_beq]
          exact dec_iff ⟨fun x => (linkP_more h2 h3).2 ⟨h1, by omega, x⟩, fun x => ((linkP_more h2 h3).1 x).2.2⟩
        · rw [if_neg h4]; exact (dec_false (fun x => by have := (linkP_more h2 h3).1 x; omega)).symm
      · rw [if_neg h1]; exact (dec_false (fun x => h1 ((linkP_more h2 h3).1 x).1)).symm

-- spec_MirrorLink
theorem spec_MirrorLink_f (a b : Int) {k : Nat} (hk : 1000 ≤ k) : spec_MirrorLink.f k a b = some (mirlinkofv a b) := by
  unfold spec_MirrorLink.f
  rw [spec_LinkOk_f _ _ hk]; simp only [Option.bind_some, decide_eq_true_eq]
  unfold mirlinkofv mirlinkv
  by_cases h : LinkP a b
  · rw [if_pos h, if_pos h]
    have hr := linkP_range h
    by_cases h2 : a < 2
    · rw [if_pos h2, if_neg (by omega)]
    · rw [if_neg h2, if_pos (by omega), wrap64_in (by omega) (by omega)]
  · rw [if_neg h, if_neg h]

-- leastmath
/-- The program's search for a lesser number left: from x on. -/
def scan : Nat → Nat → Nat → Nat → Nat
  | 0, _, _, b => b
  | n + 1, x, a, b => if x < b then (if x * b % a = 1 then x else scan n (x + 1) a b) else b
/-- The reference's search for the number that multiplied leaves 1. -/
def backn : Nat → Nat → Nat → Nat → Nat
  | 0, _, _, _ => 0
  | n + 1, x, l, a => if x < a then (if x * l % a = 1 then x else backn n (x + 1) l a) else 0
def leastn (a b : Nat) : Nat := scan 60 1 a b
def leastv (a b : Int) : Int := (leastn a.toNat b.toNat : Nat)
theorem tmod_cast (m n : Nat) : Int.tmod (m : Int) (n : Int) = ((m % n : Nat) : Int) := by
  rw [Int.tmod_eq_emod_of_nonneg (by omega)]; omega
theorem back_least : ((List.range 61).all fun a => (List.range 61).all fun b => !(decide (2 ≤ a) && decide (1 ≤ b) && decide (b < a) && decide (Nat.gcd a b = 1)) || decide (min b (backn 60 1 b a) = leastn a b)) = true := by decide +kernel
theorem back_least_at {a b : Nat} (h1 : 2 ≤ a) (h2 : a ≤ 60) (h3 : 1 ≤ b) (h4 : b < a) (h5 : Nat.gcd a b = 1) : min b (backn 60 1 b a) = leastn a b := by
  have h := back_least
  rw [List.all_eq_true] at h
  have h := h a (List.mem_range.2 (by omega))
  rw [List.all_eq_true] at h
  have h := h b (List.mem_range.2 (by omega))
  simpa [h1, h3, h4, h5] using h
/-- What LeastOf answers. -/
def leastofv (a b : Int) : Int × Int × Bool := if LinkP a b then (a, leastv a b, true) else (0, 0, false)

-- impl_least
theorem impl_least_l0 (n : Nat) : ∀ (x a b : Nat), 0 < a → b ≤ x + n → x ≤ 100 → a ≤ 100 → b ≤ 100 → ∀ k, n + 1 < k → impl_least.l0 k (x : Int) (a : Int) (b : Int) = some ((a : Int), ((scan n x a b : Nat) : Int)) := by
  induction n with
  | zero =>
    intro x a b ha hb hx _ _ k hk
    obtain ⟨k, rfl⟩ : ∃ m, k = m + 1 := ⟨k - 1, by omega⟩
    simp only [impl_least.l0]
    rw [if_neg (by omega)]; rfl
  | succ n ih =>
    intro x a b ha hb hx ha' hb' k hk
    obtain ⟨k, rfl⟩ : ∃ m, k = m + 1 := ⟨k - 1, by omega⟩
    simp only [impl_least.l0, scan]
    by_cases h : x < b
    · have hm : x * b ≤ 100 * 100 := Nat.mul_le_mul hx hb'
      rw [if_pos (by omega), if_neg (by omega), if_pos h, ← Int.natCast_mul, wrap64_in (n := ((x * b : Nat) : Int)) (by omega) (by omega), tmod_cast]
      by_cases h1 : x * b % a = 1
      · rw [if_pos (by omega), if_pos h1, wrap64_in (by omega) (by omega)]
        obtain ⟨k, rfl⟩ : ∃ m, k = m + 1 := ⟨k - 1, by omega⟩
        simp only [impl_least.l0]
        rw [if_neg (by omega)]
      · rw [if_neg (by omega), if_neg h1, wrap64_in (by omega) (by omega)]
        have := ih (x + 1) a b ha (by omega) (by omega) ha' hb' k (by omega)
        rw [← this]; rfl
    · rw [if_neg (by omega), if_neg h]
theorem impl_least_f {a b : Int} {k : Nat} (h : LinkP a b) (hk : 1000 ≤ k) : impl_least.f k a b = some (a, leastv a b) := by
  have hr := linkP_range h
  unfold impl_least.f leastv leastn
  obtain ⟨a, rfl⟩ := Int.eq_ofNat_of_zero_le hr.1
  obtain ⟨b, rfl⟩ := Int.eq_ofNat_of_zero_le hr.2.2.1
  by_cases ha : a = 0
  · subst ha
    have := (linkP_zero b).1 h
    obtain rfl : b = 1 := by omega
    obtain ⟨k, rfl⟩ : ∃ m, k = m + 1 := ⟨k - 1, by omega⟩
    simp only [impl_least.l0]
    rw [if_neg (by omega)]; rfl
  · exact impl_least_l0 60 1 a b (by omega) (by omega) (by omega) (by omega) (by omega) k (by omega)

-- impl_LeastOf
theorem impl_LeastOf_f (a b : Int) {k : Nat} (hk : 1000 ≤ k) : impl_LeastOf.f k a b = some (leastofv a b) := by
  unfold impl_LeastOf.f
  rw [impl_isLink_f _ _ hk]; simp only [Option.bind_some, decide_eq_true_eq]
  unfold leastofv
  by_cases h : LinkP a b
  · rw [if_pos h, if_pos h, impl_least_f h hk]; rfl
  · rw [if_neg h, if_neg h]

-- lowmath
/-- Two numbers in lowest terms. -/
def lowv (a b : Int) : Int × Int := if b < 0 ∨ (b = 0 ∧ a < 0) then (Int.tdiv a (-(Int.gcd a b : Int)), Int.tdiv b (-(Int.gcd a b : Int))) else (Int.tdiv a (Int.gcd a b : Int), Int.tdiv b (Int.gcd a b : Int))
theorem gcd_ne {a b : Int} (h : ¬ (a = 0 ∧ b = 0)) : Int.gcd a b ≠ 0 := by
  intro x; rw [Int.gcd_eq_zero_iff] at x; exact h x
theorem tdiv_wrap {a g : Int} (h : a.natAbs ≤ 9223372036854775807) : wrap64 (Int.tdiv a g) = Int.tdiv a g := by
  have := Nat.div_le_self a.natAbs g.natAbs
  have e : (Int.tdiv a g).natAbs = a.natAbs / g.natAbs := Int.natAbs_tdiv a g
  rw [← e] at this
  exact wrap64_in (by omega) (by omega)
theorem gcd_le_abs {a b : Int} (h : ¬ (a = 0 ∧ b = 0)) : (Int.gcd a b) ≤ a.natAbs + b.natAbs := by
  by_cases ha : a = 0
  · subst ha; rw [Int.gcd_zero_left]; omega
  · have := Int.gcd_le_natAbs_left (b := b) ha; omega

-- lowestof
/-- What LowestOf answers. -/
def LowOk (a b : Int) : Prop := (-1000000 ≤ a ∧ a ≤ 1000000) ∧ (-1000000 ≤ b ∧ b ≤ 1000000) ∧ ¬ (a = 0 ∧ b = 0)
instance (a b : Int) : Decidable (LowOk a b) := by unfold LowOk; infer_instance
def lowofv (a b : Int) : Int × Int × Bool := if LowOk a b then ((lowv a b).1, (lowv a b).2, true) else (0, 0, false)

-- impl_lowest
theorem impl_lowest_f {a b : Int} {k : Nat} (h : ¬ (a = 0 ∧ b = 0)) (ha : a.natAbs ≤ 1000000) (hb : b.natAbs ≤ 1000000) (hk : 1000001 ≤ k) : impl_lowest.f k a b = some (lowv a b) := by
  unfold impl_lowest.f
  rw [impl_gcd_f (by omega) (by omega) (by omega)]; simp only [Option.bind_some]
  have hg := gcd_ne h
  have hl := gcd_le_abs h
  rw [wrap64_in (n := -((Int.gcd a b : Nat) : Int)) (by omega) (by omega)]
  unfold lowv
  by_cases h1 : b < 0
  · rw [if_pos h1, if_neg (by omega), if_pos (.inl h1), tdiv_wrap (by omega), tdiv_wrap (by omega)]
  · rw [if_neg h1]
    by_cases h2 : b = 0
    · rw [if_pos h2]
      by_cases h3 : a < 0
      · rw [if_pos h3, if_neg (by omega), if_pos (.inr ⟨h2, h3⟩), tdiv_wrap (by omega), tdiv_wrap (by omega)]
      · rw [if_neg h3, if_neg (by omega), if_neg (by omega), tdiv_wrap (by omega), tdiv_wrap (by omega)]
    · rw [if_neg h2, if_neg (by omega), if_neg (by omega), tdiv_wrap (by omega), tdiv_wrap (by omega)]

-- impl_isPart
theorem impl_isPart_f (a : Int) : impl_isPart.f a = some (decide (-1000000 ≤ a ∧ a ≤ 1000000)) := by
  unfold impl_isPart.f
  by_cases h : -1000000 ≤ a
  · rw [if_pos h]; exact dec_iff ⟨fun x => ⟨h, x⟩, fun x => x.2⟩
  · rw [if_neg h]; exact (dec_false (fun x => h x.1)).symm

-- impl_LowestOf
theorem impl_LowestOf_f (a b : Int) {k : Nat} (hk : 1000001 ≤ k) : impl_LowestOf.f k a b = some (lowofv a b) := by
  unfold impl_LowestOf.f
  simp only [impl_isPart_f, Option.bind_some, decide_eq_true_eq]
  unfold lowofv
  by_cases h1 : -1000000 ≤ a ∧ a ≤ 1000000
  · rw [if_pos h1]
    by_cases h2 : -1000000 ≤ b ∧ b ≤ 1000000
    · rw [if_pos h2]
      by_cases h3 : a = 0
      · rw [if_pos h3]
        by_cases h4 : b = 0
        · rw [if_pos h4, if_neg (show ¬ LowOk a b from fun x => x.2.2 ⟨h3, h4⟩)]
        · rw [if_neg h4, impl_lowest_f (by omega) (by omega) (by omega) hk, if_pos (show LowOk a b from ⟨h1, h2, fun x => h4 x.2⟩)]; rfl
      · rw [if_neg h3, impl_lowest_f (by omega) (by omega) (by omega) hk, if_pos (show LowOk a b from ⟨h1, h2, fun x => h3 x.1⟩)]; rfl
    · rw [if_neg h2, if_neg (show ¬ LowOk a b from fun x => h2 x.2.1)]
  · rw [if_neg h1, if_neg (show ¬ LowOk a b from fun x => h1 x.1)]

-- mirmath
theorem gcd_neg_left (a b : Int) : Int.gcd (-a) b = Int.gcd a b := by simp
theorem lowv_coprime {a b : Int} (h : Int.gcd a b = 1) : lowv a b = if b < 0 ∨ (b = 0 ∧ a < 0) then (-a, -b) else (a, b) := by
  unfold lowv; rw [h]; split <;> simp
/-- The fraction with the other sign. -/
def mirv (a b : Int) : Int × Int := if b > 0 then (-a, b) else (a, b)
theorem mir_frac {a b : Int} (h : Frac a b) : Frac (mirv a b).1 (mirv a b).2 := by
  unfold mirv; split
  · refine ⟨by have := h.1; simp; omega, h.2.1, by simpa using h.2.2.1, fun x => by omega⟩
  · exact h
theorem mir_low {a b : Int} (h : Frac a b) : lowofv (-a) b = ((mirv a b).1, (mirv a b).2, true) := by
  have h1 := h.1
  have h2 := h.2.1
  have hg := h.2.2.1
  have hz := h.2.2.2
  unfold lowofv
  rw [if_pos ⟨by omega, by omega, by omega⟩, lowv_coprime (by rw [gcd_neg_left]; exact hg)]
  unfold mirv
  by_cases hb : b > 0
  · rw [if_neg (by omega), if_pos hb]
  · have : b = 0 := by omega
    have := hz this
    rw [if_pos (by omega), if_neg hb]
    subst this; subst b; rfl

-- impl_isFraction
theorem impl_isFraction_f (a b : Int) {k : Nat} (hk : 1000001 ≤ k) : impl_isFraction.f k a b = some (decide (Frac a b)) := by
  unfold impl_isFraction.f
  rw [impl_isPart_f]; simp only [Option.bind_some, decide_eq_true_eq]
  by_cases h1 : -1000000 ≤ a ∧ a ≤ 1000000
  · rw [if_pos h1]
    by_cases h2 : b < 0
    · rw [if_pos h2]; exact (dec_false (fun x => by have := x.2.1; omega)).symm
    · rw [if_neg h2]
      by_cases h2' : b > 1000000
      · rw [if_pos h2']; exact (dec_false (fun x => by have := x.2.1; omega)).symm
      · rw [if_neg h2', impl_gcd_f (by omega) (by omega) (by omega)]; simp only [Option.bind_some]
        have hb : (((Int.gcd a b : Nat) : Int) == 1) = decide (Int.gcd a b = 1) := by
          rw [Bool.eq_iff_iff]; simp; omega
        rw [hb]
        by_cases h4 : b = 0
        · rw [if_pos h4]
          by_cases h5 : a = 1
          · rw [if_pos h5]; exact dec_iff ⟨fun h => ⟨h1, by omega, h, fun _ => h5⟩, fun h => h.2.2.1⟩
          · rw [if_neg h5]; exact (dec_false (fun x => h5 (x.2.2.2 h4))).symm
        · rw [if_neg h4]; exact dec_iff ⟨fun h => ⟨h1, by omega, h, fun h' => absurd h' h4⟩, fun h => h.2.2.1⟩
  · rw [if_neg h1]; exact (dec_false (fun x => h1 x.1)).symm

-- impl_MirrorOf
theorem impl_mirrored_f {a b : Int} (h : Frac a b) : impl_mirrored.f a b = some (mirv a b) := by
  unfold impl_mirrored.f mirv
  have h1 := h.1
  split
  · rw [wrap64_in (by omega) (by omega)]
  · rfl
theorem impl_MirrorOf_f (a b : Int) {k : Nat} (hk : 1000001 ≤ k) : impl_MirrorOf.f k a b = some (if Frac a b then mirv a b else (0, 0)) := by
  unfold impl_MirrorOf.f
  simp only [impl_isFraction_f _ _ hk, Option.bind_some, decide_eq_true_eq]
  by_cases h : Frac a b
  · rw [if_pos h, if_pos h, impl_mirrored_f h]; rfl
  · rw [if_neg h, if_neg h]

-- impl_linkOf
theorem impl_linkOf_f (a b : Int) {k : Nat} (hk : 1000002 ≤ k) : impl_linkOf.f k a b = some (linkofv a b) := by
  obtain ⟨k, rfl⟩ : ∃ m, k = m + 1 := ⟨k - 1, by omega⟩
  unfold impl_linkOf.f
  rw [impl_isFraction_f _ _ (by omega)]; simp only [Option.bind_some, decide_eq_true_eq]
  have no : ¬ (Frac a b ∧ (-60 ≤ a ∧ a ≤ 60)) → impl_linkOf.j0 (k + 1) true a b = some (linkofv a b) := by
    intro h; simp only [impl_linkOf.j0]; rw [if_pos trivial]; unfold linkofv; rw [if_neg h]
  by_cases h : Frac a b
  · rw [if_pos h]
    by_cases h1 : a < -60
    · rw [if_pos h1]; exact no (fun x => by omega)
    · rw [if_neg h1]
      by_cases h2 : a > 60
      · rw [decide_eq_true h2]; exact no (fun x => by omega)
      · rw [decide_eq_false h2]; simp only [impl_linkOf.j0]; rw [if_neg (by decide)]
        by_cases h0 : a = 0
        · rw [if_pos h0]; unfold linkofv; rw [if_pos ⟨h, by omega⟩, if_pos h0]
        · rw [if_neg h0]; exact linkof_value h (by omega) h0
  · rw [if_neg h]; exact no (fun x => h x.1)

-- samelink
/-- SameLink of two links. -/
def SameP (a b c d : Int) : Prop := LinkP a b ∧ LinkP c d ∧ a = c ∧ leastv a b = leastv c d
instance (a b c d : Int) : Decidable (SameP a b c d) := by unfold SameP; infer_instance
theorem beq_and (a b c d : Int) : (a == c && (b == d)) = decide (a = c ∧ b = d) := by
  rw [Bool.eq_iff_iff]; simp

-- impl_SameLink
theorem impl_SameLink_f (a b c d : Int) {k : Nat} (hk : 1000 ≤ k) : impl_SameLink.f k a b c d = some (decide (SameP a b c d)) := by
  unfold impl_SameLink.f
  rw [impl_isLink_f _ _ hk, impl_isLink_f _ _ hk]; simp only [Option.bind_some, decide_eq_true_eq]
  by_cases h : LinkP a b
  · rw [if_pos h]
    by_cases h' : LinkP c d
    · rw [if_pos h', impl_least_f h hk, impl_least_f h' hk]; simp only [Option.bind_some, beq_and]
      exact dec_iff ⟨fun x => ⟨h, h', x⟩, fun x => x.2.2⟩
    · rw [if_neg h']; exact (dec_false (fun x => h' x.2.1)).symm
  · rw [if_neg h]; exact (dec_false (fun x => h x.1)).symm

-- leastmore
theorem scan_le (n : Nat) : ∀ x a b : Nat, scan n x a b ≤ b := by
  induction n with
  | zero => intro x a b; exact Nat.le_refl _
  | succ n ih =>
    intro x a b
    rw [scan]
    split
    · split
      · omega
      · exact ih _ _ _
    · exact Nat.le_refl _
theorem leastv_le (a b : Int) (h : 0 ≤ b) : leastv a b ≤ b := by
  unfold leastv leastn
  have := scan_le 60 1 a.toNat b.toNat
  omega
theorem least_least : ((List.range 61).all fun a => (List.range 61).all fun b => !(decide (LinkP (a : Int) (b : Int))) || decide (LinkP (a : Int) ((leastn a b : Nat) : Int) ∧ leastn a (leastn a b) = leastn a b)) = true := by decide +kernel
theorem leastv_ok {a b : Int} (h : LinkP a b) : LinkP a (leastv a b) ∧ leastv a (leastv a b) = leastv a b := by
  have hr := linkP_range h
  obtain ⟨a, rfl⟩ := Int.eq_ofNat_of_zero_le hr.1
  obtain ⟨b, rfl⟩ := Int.eq_ofNat_of_zero_le hr.2.2.1
  have x := least_least
  rw [List.all_eq_true] at x
  have x := x a (List.mem_range.2 (by omega))
  rw [List.all_eq_true] at x
  have x := x b (List.mem_range.2 (by omega))
  simp [h] at x
  unfold leastv
  simp only [Int.toNat_natCast]
  exact ⟨x.1, by rw [x.2]⟩

-- alive
theorem alive_f {k : Nat} (hk : 1000001 ≤ k) : laws_alive.f k = some true := by
  unfold laws_alive.f impl_FractionOk.f
  simp only [impl_isFraction_f _ _ hk, Option.bind_some]
  rw [if_pos (by decide)]
  congr 1

theorem DrawMirrorLink_f {l : List Int} {k : Nat} (h : ∀ x ∈ l, (Lit.int .u8 x).wf = true) (hk : 2000000 ≤ k) : ∃ a b, spec_DrawMirrorLink.f k l = some (a, b) := by
  unfold spec_DrawMirrorLink.f
  obtain ⟨s, hs, hr⟩ := open_f h
  rw [hs]; simp only [Option.bind_some]
  obtain ⟨a, b, q, hf, hd, q0, q1⟩ := l20Link_f (k := k) (p := 0) 9 hr (by omega) (by omega) (by omega)
  rw [hf]; simp only [Option.bind_some]
  exact ⟨a, b, rfl⟩
def MirAll (a b : Int) : Prop :=
  mirlinkv (mirlinkv a b).1 (mirlinkv a b).2 = (a, b) ∧ SameP (mirlinkv a (leastv a b)).1 (mirlinkv a (leastv a b)).2 (mirlinkv a b).1 (mirlinkv a b).2 ∧
  (lowofv a (mx b 1)).2.2 = true ∧ Frac (lowofv a (mx b 1)).1 (lowofv a (mx b 1)).2.1 ∧
  (linkofv (mirv (lowofv a (mx b 1)).1 (lowofv a (mx b 1)).2.1).1 (mirv (lowofv a (mx b 1)).1 (lowofv a (mx b 1)).2.1).2).2.2 = true ∧
  SameP (linkofv (mirv (lowofv a (mx b 1)).1 (lowofv a (mx b 1)).2.1).1 (mirv (lowofv a (mx b 1)).1 (lowofv a (mx b 1)).2.1).2).1 (linkofv (mirv (lowofv a (mx b 1)).1 (lowofv a (mx b 1)).2.1).1 (mirv (lowofv a (mx b 1)).1 (lowofv a (mx b 1)).2.1).2).2.1 (mirlinkv a b).1 (mirlinkv a b).2
instance (a b : Int) : Decidable (MirAll a b) := by unfold MirAll; infer_instance
theorem mir_all : ((List.range 61).all fun a => (List.range 61).all fun b => !(decide (LinkP (a : Int) (b : Int))) || decide (MirAll (a : Int) (b : Int))) = true := by decide +kernel
theorem FnMirrorLink : laws_FnMirrorLink.Pure := by
  intro l _ _ hw
  obtain ⟨k, hk⟩ := bigk
  obtain ⟨k, rfl⟩ : ∃ m, k = m + 1 := ⟨k - 1, by omega⟩
  refine ⟨k + 1, ?_⟩
  unfold laws_FnMirrorLink.f
  refine ite_to (fun _ => rfl) (fun _ => ?_)
  obtain ⟨a, b, hd⟩ := DrawMirrorLink_f hw (show 2000000 ≤ k + 1 by omega)
  rw [hd]; simp only [Option.bind_some]
  rw [impl_MirrorLink_f _ _ (by omega), spec_MirrorLink_f _ _ (by omega)]; simp only [Option.bind_some]
  rw [if_neg (by simp), show ((mirlinkofv a b).2.2 != (mirlinkofv a b).2.2) = false by simp]
  simp only [laws_FnMirrorLink.j0]
  rw [if_neg (by decide)]
  have hM : ∀ a b, LinkP a b → mirlinkofv a b = ((mirlinkv a b).1, (mirlinkv a b).2, true) := by
    intro a b h; unfold mirlinkofv; rw [if_pos h]
  by_cases h : LinkP a b
  · have hr := linkP_range h
    have x := mir_all
    rw [List.all_eq_true] at x
    have x := x a.toNat (List.mem_range.2 (by omega))
    rw [List.all_eq_true] at x
    have x := x b.toNat (List.mem_range.2 (by omega))
    rw [show ((a.toNat : Nat) : Int) = a by omega, show ((b.toNat : Nat) : Int) = b by omega, decide_eq_true h] at x
    simp only [Bool.not_true, Bool.false_or] at x
    obtain ⟨x1, x2, x3, x4, x5, x6⟩ := of_decide_eq_true x
    have hm := mirlink_ok h
    have hl := leastv_ok h
    rw [hM a b h]; simp only
    rw [if_pos trivial, impl_MirrorLink_f _ _ (by omega), impl_LeastOf_f _ _ (by omega)]; simp only [Option.bind_some]
    rw [hM _ _ hm, x1, show leastofv a b = (a, leastv a b, true) from by unfold leastofv; rw [if_pos h]]; simp only
    rw [impl_MirrorLink_f _ _ (by omega), hM _ _ hl.1]; simp only [Option.bind_some]
    rw [impl_LowestOf_f _ _ (by omega)]; simp only [Option.bind_some]
    rw [impl_MirrorOf_f _ _ (by omega), if_pos x4]; simp only [Option.bind_some]
    unfold impl_LinkOf.f impl_LinkOk.f
    rw [impl_linkOf_f _ _ (by omega), impl_isLink_f _ _ (by omega), impl_SameLink_f _ _ _ _ (by omega)]; simp only [Option.bind_some]
    rw [impl_SameLink_f _ _ _ _ (by omega)]; simp only [Option.bind_some]
    simp only [decide_eq_true hm, decide_eq_true x2, x3, x5, decide_eq_true x6]
    simp
  · have e : mirlinkofv a b = (0, 0, false) := by unfold mirlinkofv; rw [if_neg h]
    rw [e]; simp only
    rw [if_neg (by decide), if_pos (by decide), alive_f (by omega)]; rfl

end Go.Proofs.Ytblbkmjneeeodaa.Pure
