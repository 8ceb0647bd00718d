/- What the functions of layer 19 tell of a place: its level is how often it can be halved, and the place above it of a level is a quotient by a power of two. -/
import Derived.Test.YtegpplokfjojbaaTreeLives
import Derived.Lib.ItoaNum
namespace Go.Proofs.Ytegpplokfjojbaa.TreePure
open Go.RowKit Go.Proofs.Ytegpplokfjojbaa.TreeFns Go.Proofs.YtegpplokfjojbaaW.PrintWords Go.Proofs.YtegpplokfjojbaaW.PrintLast Go.Proofs.YtegpplokfjojbaaW.PrintMore

/-- How often a number can be halved. -/
def lev (m : Nat) : Nat := Lib.bitLen m - 1

theorem lev_bounds (m : Nat) (h : 1 ≤ m) (h2 : m ≤ 1048576) : Lib.bitLen m = lev m + 1 ∧ 2 ^ lev m ≤ m ∧ m < 2 ^ (lev m + 1) ∧ lev m ≤ 20 := by
  have hb := Lib.bitLenAux_bounds 64 m (by omega) (by omega)
  have hl := Lib.bitLen_le m 21 (by decide) (by omega)
  have e : Lib.bitLenAux 64 m = Lib.bitLen m := rfl
  rw [e] at hb
  unfold lev
  have e2 : Lib.bitLen m = Lib.bitLen m - 1 + 1 := by omega
  refine ⟨e2, hb.2.1, ?_, by omega⟩
  rw [← e2]
  exact hb.2.2

theorem lev_one : lev 1 = 0 := by decide +kernel
theorem lev_half (m : Nat) (h : 2 ≤ m) (h2 : m ≤ 1048576) : lev m = lev (m / 2) + 1 := by
  have h3 := Lib.bitLen_half m (by omega) (by omega)
  have h4 := (lev_bounds (m / 2) (by omega) (by omega)).1
  unfold lev at *
  omega

theorem lev_shift (m k : Nat) (h : 1 ≤ m) (h2 : m ≤ 1048576) (hk : k ≤ lev m) : lev (m / 2 ^ k) = lev m - k := by
  have hb := lev_bounds m h h2
  have hp : 2 ^ k ≤ m := Nat.le_trans (Nat.pow_le_pow_right (by decide) hk) hb.2.1
  have h3 := Lib.bitLen_shift k m hp (by omega)
  unfold lev at *
  omega

theorem wrap_half (m : Nat) (h : m ≤ 1048576) : wrap64 (Int.tdiv (m : Int) 2) = ((m / 2 : Nat) : Int) := by
  rw [Int.tdiv_eq_ediv_of_nonneg (by omega)]
  unfold wrap64
  omega
theorem wrap_inc (i : Nat) (h : i ≤ 1048576) : wrap64 ((i : Int) + 1) = ((i + 1 : Nat) : Int) := by
  unfold wrap64
  omega
theorem wrap_dec (i : Nat) (h : i ≤ 1048576) (h1 : 1 ≤ i) : wrap64 ((i : Int) - 1) = ((i - 1 : Nat) : Int) := by
  unfold wrap64
  omega

theorem right_is (n : Int) : tree_right.f n = some (decide (n ≥ 1 ∧ n ≤ 1048576)) := by
  unfold tree_right.f
  by_cases h : n ≥ 1
  · rw [if_pos h]
    congr 1
    simp [h]
  · rw [if_neg h]
    congr 1
    simp [h]

theorem law_right_is (n : Int) : jostlelaw19_right.f n = some (decide (n ≥ 1 ∧ n ≤ 1048576)) := by
  unfold jostlelaw19_right.f
  by_cases h : n ≥ 1
  · rw [if_pos h]
    congr 1
    simp [h]
  · rw [if_neg h]
    congr 1
    simp [h]

theorem parent_off (n : Int) (h : ¬ (n ≥ 1 ∧ n ≤ 1048576)) : tree_Parent.f n = some 0 := by
  unfold tree_Parent.f
  rw [right_is, decide_eq_false h]
  rfl

theorem parent_is (m : Nat) (h : 1 ≤ m) (h2 : m ≤ 1048576) : tree_Parent.f (m : Int) = some ((m / 2 : Nat) : Int) := by
  unfold tree_Parent.f
  rw [right_is, decide_eq_true (by omega)]
  simp only [Option.bind_some, if_true]
  congr 1
  rw [Int.tdiv_eq_ediv_of_nonneg (by omega)]
  unfold wrap64
  omega

theorem level_off (k : Nat) (n : Int) (h : ¬ (n ≥ 1 ∧ n ≤ 1048576)) : tree_Level.f k n = some 0 := by
  unfold tree_Level.f
  rw [right_is, decide_eq_false h]
  rfl

theorem level_is (k m : Nat) (h : 1 ≤ m) (h2 : m ≤ 1048576) : tree_Level.f k (m : Int) = some (lev m : Int) := by
  have hb := lev_bounds m h h2
  unfold tree_Level.f bits_Len.f
  rw [right_is, decide_eq_true (by omega)]
  simp only [Option.bind_some, if_true]
  have hw : IntKind.u64.wrap (m : Int) = (m : Int) := by rw [IntKind.wrap_u64]; omega
  rw [hw, if_pos (by omega), if_pos (by omega)]
  simp only [Option.bind_some, Int.toNat_natCast]
  congr 1
  rw [hb.1]
  unfold wrap64
  omega

theorem up_off (k : Nat) (n l : Int) (h : ¬ (n ≥ 1 ∧ n ≤ 1048576)) : tree_Up.f k n l = some 0 := by
  unfold tree_Up.f
  rw [right_is, decide_eq_false h]
  rfl

/-- The place above of a level; 0, where there is none. -/
def above (m : Nat) (l : Int) : Nat := if l < 0 ∨ (lev m : Int) < l then 0 else m / 2 ^ (lev m - l.toNat)

theorem up_is (k m : Nat) (l : Int) (h : 1 ≤ m) (h2 : m ≤ 1048576) : tree_Up.f k (m : Int) l = some (above m l : Int) := by
  have hb := lev_bounds m h h2
  unfold tree_Up.f above
  rw [right_is, decide_eq_true (by omega)]
  simp only [Option.bind_some, if_true]
  by_cases h0 : l < 0
  · rw [if_pos h0, if_pos (.inl h0)]
    rfl
  · rw [if_neg h0, level_is k m h h2]
    simp only [Option.bind_some]
    by_cases h1 : (lev m : Int) < l
    · rw [if_pos h1, if_pos (.inr h1)]
      rfl
    · rw [if_neg h1]
      have hw : wrap64 ((lev m : Int) - l) = (lev m : Int) - l := by unfold wrap64; omega
      rw [hw, if_pos (show 0 ≤ (lev m : Int) - l by omega), if_neg (show ¬ (l < 0 ∨ (lev m : Int) < l) by omega)]
      congr 1
      unfold shr
      have e : ((lev m : Int) - l).toNat = lev m - l.toNat := by omega
      rw [e, Nat.min_eq_left (show lev m - l.toNat ≤ IntKind.i64.bits from Nat.le_trans (show lev m - l.toNat ≤ 64 by omega) (by decide))]
      rw [Int.natCast_ediv, Int.natCast_pow]
      rfl

theorem lives_is : jostlelaw19_lives.f 20 = some true := by decide +kernel
theorem lives_from (k : Nat) (h : 20 ≤ k) : jostlelaw19_lives.f k = some true := at_rounds (g := fun k => jostlelaw19_lives.f k) jostlelaw19_lives.mono h lives_is

end Go.Proofs.Ytegpplokfjojbaa.TreePure
