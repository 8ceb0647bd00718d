/- TreePlaces holds as a plain law: of every two numbers (int) the parent, the level and the place above are the document's; there is no condition. -/
import Derived.Test.YtegpplokfjojbaaTreePure
import Derived.Test.YtegpplokfjojbaaTreePlacesWalk
namespace Go.Proofs.Ytegpplokfjojbaa.TreePlacesPure
open Go.RowKit Go.Proofs.Ytegpplokfjojbaa.TreeFns Go.Proofs.Ytegpplokfjojbaa.TreePure Go.Proofs.YtegpplokfjojbaaW.PrintWords Go.Proofs.YtegpplokfjojbaaW.PrintLast Go.Proofs.YtegpplokfjojbaaW.PrintMore

theorem halves (d : Nat) : ∀ (m k c : Nat), 1 ≤ m → m ≤ 1048576 → lev m = d → d < k → c + d ≤ 100 → jostlelaw19_level.l0 k (c : Int) (m : Int) = some ((c + d : Nat) : Int) := by
  induction d with
  | zero =>
    intro m k c h1 h2 hd hk hc
    obtain ⟨k, rfl⟩ : ∃ j, k = j + 1 := ⟨k - 1, by omega⟩
    have hm : ¬ 2 ≤ m := fun h => by have := lev_half m h h2; omega
    simp only [jostlelaw19_level.l0]
    rw [if_neg (by omega)]
    rfl
  | succ d ih =>
    intro m k c h1 h2 hd hk hc
    obtain ⟨k, rfl⟩ : ∃ j, k = j + 1 := ⟨k - 1, by omega⟩
    have hm : 2 ≤ m := by
      refine Nat.le_of_not_lt fun h => ?_
      obtain rfl : m = 1 := by omega
      have := lev_one
      omega
    have hl := lev_half m hm h2
    simp only [jostlelaw19_level.l0]
    rw [if_pos (by omega), wrap_inc c (by omega), wrap_half m h2, ih (m / 2) k (c + 1) (by omega) (by omega) (by omega) (by omega) (by omega)]
    congr 2
    omega

theorem law_level_is (k m : Nat) (h1 : 1 ≤ m) (h2 : m ≤ 1048576) (hk : 21 ≤ k) : jostlelaw19_level.f k (m : Int) = some (lev m : Int) := by
  have hb := lev_bounds m h1 h2
  unfold jostlelaw19_level.f
  have h := halves (lev m) m k 0 h1 h2 rfl (by omega) (by omega)
  rw [Nat.zero_add] at h
  exact h

theorem end_is (k m : Nat) (l : Int) (h1 : 1 ≤ m) (h2 : m ≤ 1048576) (hk : 22 ≤ k) : jostlelaw19_TreePlaces.j3 k (m : Int) l (above m l : Int) = some true := by
  obtain ⟨k, rfl⟩ : ∃ j, k = j + 1 := ⟨k - 1, by omega⟩
  simp only [jostlelaw19_TreePlaces.j3]
  rw [wrap_half m h2, parent_is m h1 h2, Option.bind_some, if_pos rfl, level_is k m h1 h2, Option.bind_some, law_level_is k m h1 h2 (by omega), Option.bind_some, if_pos rfl, up_is k m l h1 h2, Option.bind_some, if_pos rfl, lives_from k (by omega), Option.bind_some]

theorem climbs (m : Nat) (l : Nat) (h1 : 1 ≤ m) (h2 : m ≤ 1048576) (hl : l ≤ lev m) (d : Nat) : ∀ (i k : Nat), i = l + d → i ≤ lev m → 22 + d < k →
    jostlelaw19_TreePlaces.l0 k (m : Int) (l : Int) ((m / 2 ^ (lev m - i) : Nat) : Int) (i : Int) = some true := by
  have hb := lev_bounds m h1 h2
  induction d with
  | zero =>
    intro i k hi hle hk
    obtain ⟨k, rfl⟩ : ∃ j, k = j + 1 := ⟨k - 1, by omega⟩
    have hpos : 0 < m / 2 ^ (lev m - i) := Nat.div_pos (Nat.le_trans (Nat.pow_le_pow_right (by decide) (Nat.sub_le _ _)) hb.2.1) (Nat.two_pow_pos _)
    simp only [jostlelaw19_TreePlaces.l0]
    rw [if_pos (by omega), if_neg (by omega)]
    have e : above m (l : Int) = m / 2 ^ (lev m - i) := by
      unfold above
      rw [if_neg (by omega), Int.toNat_natCast]
      congr 2
      omega
    rw [← e]
    exact end_is k m l h1 h2 (by omega)
  | succ d ih =>
    intro i k hi hle hk
    obtain ⟨k, rfl⟩ : ∃ j, k = j + 1 := ⟨k - 1, by omega⟩
    have hpos : 0 < m / 2 ^ (lev m - i) := Nat.div_pos (Nat.le_trans (Nat.pow_le_pow_right (by decide) (Nat.sub_le _ _)) hb.2.1) (Nat.two_pow_pos _)
    have hbig : m / 2 ^ (lev m - i) ≤ m := Nat.div_le_self _ _
    simp only [jostlelaw19_TreePlaces.l0]
    have e2 : m / 2 ^ (lev m - i) / 2 = m / 2 ^ (lev m - (i - 1)) := by
      rw [show lev m - (i - 1) = (lev m - i) + 1 by omega, Nat.pow_succ, ← Nat.div_div_eq_div_mul]
    rw [if_pos (by omega), if_pos (by omega), wrap_dec i (by omega) (by omega), wrap_half _ (by omega), e2]
    exact ih (i - 1) k (by omega) (by omega) (by omega)

theorem pure : jostlelaw19_TreePlaces.Pure := by
  intro n up _ _
  refine ⟨60, ?_⟩
  unfold jostlelaw19_TreePlaces.f
  rw [law_right_is]
  by_cases h : n ≥ 1 ∧ n ≤ 1048576
  · rw [decide_eq_true h]
    simp only [Option.bind_some, if_true]
    obtain ⟨m, rfl⟩ := Int.eq_ofNat_of_zero_le (show 0 ≤ n by omega)
    have h1 : 1 ≤ m := by omega
    have h2 : m ≤ 1048576 := by omega
    have hb := lev_bounds m h1 h2
    have hbad : above m up = 0 → ∀ k, 23 ≤ k → ∀ i, jostlelaw19_TreePlaces.l0 k (m : Int) up 0 i = some true := by
      intro h0 k hk i
      obtain ⟨k, rfl⟩ : ∃ j, k = j + 1 := ⟨k - 1, by omega⟩
      simp only [jostlelaw19_TreePlaces.l0]
      rw [if_neg (by omega)]
      have := end_is k m up h1 h2 (by omega)
      rw [h0] at this
      exact this
    by_cases h0 : up < 0
    · rw [if_pos h0]
      simp only [jostlelaw19_TreePlaces.j0, jostlelaw19_TreePlaces.j1, if_true]
      rw [law_level_is 58 m h1 h2 (by omega)]
      simp only [Option.bind_some]
      exact hbad (by unfold above; rw [if_pos (.inl h0)]) 58 (by omega) _
    · rw [if_neg h0, law_level_is 60 m h1 h2 (by omega)]
      simp only [Option.bind_some, jostlelaw19_TreePlaces.j0, jostlelaw19_TreePlaces.j1, decide_eq_true_eq]
      by_cases h3 : up > (lev m : Int)
      · rw [if_pos h3, law_level_is 58 m h1 h2 (by omega)]
        simp only [Option.bind_some]
        exact hbad (by unfold above; rw [if_pos (.inr h3)]) 58 (by omega) _
      · rw [if_neg h3, law_level_is 58 m h1 h2 (by omega)]
        simp only [Option.bind_some]
        obtain ⟨l, rfl⟩ := Int.eq_ofNat_of_zero_le (show 0 ≤ up by omega)
        have := climbs m l h1 h2 (by omega) (lev m - l) (lev m) 58 (by omega) (by omega) (by omega)
        rw [Nat.sub_self, Nat.pow_zero, Nat.div_one] at this
        exact this
  · rw [decide_eq_false h]
    simp only [Option.bind_some, Bool.false_eq_true, if_false]
    rw [parent_off n h]
    simp only [Option.bind_some]
    rw [if_pos trivial, level_off 60 n h]
    simp only [Option.bind_some]
    rw [if_pos trivial, up_off 60 n up h]
    simp only [Option.bind_some]
    rw [if_pos trivial]
    have hp : tree_Path.f 60 n = some [] := by
      unfold tree_Path.f
      rw [right_is, decide_eq_false h]
      rfl
    rw [hp]
    simp only [Option.bind_some]
    rw [if_pos (show ((([] : List Int).length : Int)) = 0 from rfl), lives_from 60 (by omega)]
    rfl

theorem walk (n up : Int) (w : World) (w0 : (Lit.int .i64 n).wf = true) (w1 : (Lit.int .i64 up).wf = true) :
    Calls Try.prog 10 #[.int .i64 n, .int .i64 up] w fun e w' => e = .returned (.bool true) ∧ Below w.heap.size w w' :=
  jostlelaw19_TreePlaces.walk pure n up w w0 w1

end Go.Proofs.Ytegpplokfjojbaa.TreePlacesPure
