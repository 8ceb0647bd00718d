/- OrdLeast holds: of every slice of uint64 the least number is one of its numbers and none is below it, and of the empty slice there is none; there is no condition. -/
import Derived.Test.YtegpplokfjojbaaPOrdLeastx1
namespace Go.Proofs.Ytegpplokfjojbaa.Pure
open Go.RowKit Go.Proofs.Ytegpplokfjojbaa.POrdLeast Go.Proofs.YtegpplokfjojbaaW.PrintWords Go.Proofs.YtegpplokfjojbaaW.PrintLast
namespace OrdLeastAid

theorem lives_is : jostlelaw02_lives.f = some true := by decide +kernel

theorem next (i : Int) (n : Nat) (h0 : 0 ≤ i) (h1 : i < (n : Int)) (hn : n * 8 ≤ 140737488351232) : wrap64 (i + 1) = i + 1 := by
  unfold wrap64
  omega

/-- What the first i numbers leave: the least of them. -/
def Low (l : List Int) (i : Nat) (x : Int) : Prop :=
  (∀ j : Nat, j < i → x ≤ rd l (j : Int)) ∧ (0 < i → ∃ j : Nat, j < i ∧ x = rd l (j : Int)) ∧ (i = 0 → x = 0)

theorem low_step {l : List Int} {i : Nat} {x : Int} (h : Low l i x) :
    Low l (i + 1) (if (i : Int) = 0 then rd l (i : Int) else if rd l (i : Int) < x then rd l (i : Int) else x) := by
  obtain ⟨ha, hb, _⟩ := h
  by_cases hi : i = 0
  · rw [if_pos (show (i : Int) = 0 by omega)]
    subst hi
    refine ⟨fun j hj => ?_, fun _ => ⟨0, by omega, rfl⟩, fun h => by omega⟩
    have : j = 0 := by omega
    subst this
    exact Int.le_refl _
  · rw [if_neg (by omega)]
    by_cases hlt : rd l (i : Int) < x
    · rw [if_pos hlt]
      refine ⟨fun j hj => ?_, fun _ => ⟨i, by omega, rfl⟩, fun h => by omega⟩
      by_cases hji : j = i
      · subst hji
        exact Int.le_refl _
      · have := ha j (by omega)
        omega
    · rw [if_neg hlt]
      refine ⟨fun j hj => ?_, fun _ => ?_, fun h => by omega⟩
      · by_cases hji : j = i
        · subst hji
          omega
        · exact ha j (by omega)
      · obtain ⟨j, hj, e⟩ := hb (by omega)
        exact ⟨j, by omega, e⟩

theorem least_tells (l : List Int) (hn : l.length * 8 ≤ 140737488351232) (d : Nat) : ∀ (k i : Nat) (x : Int), i + d = l.length → d < k → Low l i x →
    ∃ r, ord_least_uint64.l0 k l x l (l.length : Int) (i : Int) = some (r, decide ((l.length : Int) > 0)) ∧ Low l l.length r := by
  induction d with
  | zero =>
    intro k i x hd hk hl
    obtain ⟨k, rfl⟩ : ∃ m, k = m + 1 := ⟨k - 1, by omega⟩
    obtain rfl : i = l.length := by omega
    refine ⟨x, ?_, hl⟩
    simp only [ord_least_uint64.l0]
    rw [if_neg (by omega)]
  | succ d ih =>
    intro k i x hd hk hl
    obtain ⟨k, rfl⟩ : ∃ m, k = m + 1 := ⟨k - 1, by omega⟩
    obtain ⟨r, hr, h⟩ := ih k (i + 1) _ (by omega) (by omega) (low_step hl)
    refine ⟨r, ?_, h⟩
    simp only [ord_least_uint64.l0]
    rw [if_pos (by omega), if_pos (by omega), if_pos (by omega), next (i : Int) l.length (by omega) (by omega) hn]
    have e : ((i + 1 : Nat) : Int) = (i : Int) + 1 := by omega
    rw [e] at hr
    by_cases hi : (i : Int) = 0
    · rw [if_pos hi] at hr ⊢
      exact hr
    · rw [if_neg hi] at hr ⊢
      by_cases hlt : rd l (i : Int) < x
      · rw [if_pos hlt] at hr ⊢
        exact hr
      · rw [if_neg hlt] at hr ⊢
        exact hr

theorem seen_ends (l : List Int) (hn : l.length * 8 ≤ 140737488351232) (x : Int) (hx : Low l l.length x) (d : Nat) : ∀ (k i : Nat) (b : Bool), i + d = l.length → d < k →
    (b = true ∨ ∃ j : Nat, i ≤ j ∧ j < l.length ∧ x = rd l (j : Int)) → jostlelaw02_OrdLeast.l0 k l x true b (i : Int) = some true := by
  induction d with
  | zero =>
    intro k i b hd hk hb
    obtain ⟨k, rfl⟩ : ∃ m, k = m + 1 := ⟨k - 1, by omega⟩
    have hbt : b = true := by
      rcases hb with h | ⟨j, h1, h2, _⟩
      · exact h
      · omega
    simp only [jostlelaw02_OrdLeast.l0]
    rw [if_neg (by omega), if_pos trivial, if_pos hbt, lives_is]
    rfl
  | succ d ih =>
    intro k i b hd hk hb
    obtain ⟨k, rfl⟩ : ∃ m, k = m + 1 := ⟨k - 1, by omega⟩
    have hge := hx.1 i (by omega)
    have e : ((i + 1 : Nat) : Int) = (i : Int) + 1 := by omega
    simp only [jostlelaw02_OrdLeast.l0]
    rw [if_pos (by omega), if_pos (by omega), if_neg (by omega), next (i : Int) l.length (by omega) (by omega) hn, ← e]
    by_cases hbt : b = true
    · rw [if_pos hbt]
      exact ih k (i + 1) true (by omega) (by omega) (.inl rfl)
    · rw [if_neg hbt]
      refine ih k (i + 1) _ (by omega) (by omega) ?_
      rcases hb with h | ⟨j, h1, h2, h3⟩
      · exact absurd h hbt
      · by_cases hji : j = i
        · subst hji
          left
          rw [h3]
          simp
        · exact .inr ⟨j, by omega, h2, h3⟩

end OrdLeastAid
open OrdLeastAid

theorem OrdLeast : jostlelaw02_OrdLeast.Pure := by
  intro l _ hn _
  obtain ⟨x, hx, hl⟩ := least_tells l hn l.length (l.length + 1) 0 0 (by omega) (by omega) ⟨fun j hj => by omega, fun h => by omega, fun _ => rfl⟩
  refine ⟨l.length + 1, ?_⟩
  unfold jostlelaw02_OrdLeast.f ord_Least.f ord_least_uint64.f
  have e : ((0 : Nat) : Int) = 0 := rfl
  rw [e] at hx
  rw [hx]
  simp only [Option.bind_some]
  by_cases h0 : l.length = 0
  · have hx0 := hl.2.2 h0
    rw [if_pos (by omega), if_pos hx0, if_neg (by rw [decide_eq_true_eq]; omega), lives_is]
    rfl
  · rw [if_neg (by omega)]
    have ht : decide ((l.length : Int) > 0) = true := by rw [decide_eq_true_eq]; omega
    rw [ht]
    obtain ⟨j, hj, hje⟩ := hl.2.1 (by omega)
    exact seen_ends l hn x hl l.length (l.length + 1) 0 false (by omega) (by omega) (.inr ⟨j, by omega, hj, hje⟩)

end Go.Proofs.Ytegpplokfjojbaa.Pure
