/- TreePaths holds as a plain law: of every number (int) the path goes from the root to the place, each of its places the parent of the next one, a place of each level; there is no condition. -/
import Derived.Test.YtegpplokfjojbaaTreePure
import Derived.Test.YtegpplokfjojbaaTreePathsWalk
namespace Go.Proofs.Ytegpplokfjojbaa.TreePathsPure
open Go.RowKit Go.Proofs.Ytegpplokfjojbaa.TreeFns Go.Proofs.Ytegpplokfjojbaa.TreePure Go.Proofs.YtegpplokfjojbaaW.PrintWords Go.Proofs.YtegpplokfjojbaaW.PrintLast Go.Proofs.YtegpplokfjojbaaW.PrintMore

/-- A place of the path. -/
def place (m i : Nat) : Nat := m / 2 ^ (lev m - i)
/-- The first places of the path. -/
def places (m i : Nat) : List Int := (List.range i).map fun j => (place m j : Int)

theorem place_range (m i : Nat) (h1 : 1 ≤ m) (h2 : m ≤ 1048576) : 1 ≤ place m i ∧ place m i ≤ m := by
  have hb := lev_bounds m h1 h2
  exact ⟨Nat.div_pos (Nat.le_trans (Nat.pow_le_pow_right (by decide) (Nat.sub_le _ _)) hb.2.1) (Nat.two_pow_pos _), Nat.div_le_self _ _⟩

theorem above_is (m i : Nat) (hi : i ≤ lev m) : above m (i : Int) = place m i := by
  unfold above place
  rw [if_neg (by omega), Int.toNat_natCast]

theorem rd_places (m n i : Nat) (hi : i < n) : rd (places m n) (i : Int) = (place m i : Int) := by
  unfold rd places
  rw [Int.toNat_natCast]
  simp [List.getD, hi]

theorem path_goes (m : Nat) (h1 : 1 ≤ m) (h2 : m ≤ 1048576) (d : Nat) : ∀ (i k : Nat), i + d = lev m + 1 → d < k →
    tree_Path.l0 k (m : Int) (places m i) ((lev m + 1 : Nat) : Int) (i : Int) = some (places m (lev m + 1)) := by
  have hb := lev_bounds m h1 h2
  induction d with
  | zero =>
    intro i k hi hk
    obtain ⟨k, rfl⟩ : ∃ j, k = j + 1 := ⟨k - 1, by omega⟩
    simp only [tree_Path.l0]
    rw [if_neg (by omega), show i = lev m + 1 by omega]
  | succ d ih =>
    intro i k hi hk
    obtain ⟨k, rfl⟩ : ∃ j, k = j + 1 := ⟨k - 1, by omega⟩
    simp only [tree_Path.l0]
    rw [if_pos (by omega), up_is k m i h1 h2, Option.bind_some]
    have hl : (places m i).length = i := by unfold places; rw [List.length_map, List.length_range]
    rw [if_pos (by omega), above_is m i (by omega)]
    have e1 : places m i ++ [(place m i : Int)] = places m (i + 1) := by
      unfold places
      rw [List.range_succ, List.map_append]
      rfl
    have e2 := wrap_inc i (by omega)
    rw [e1, e2]
    exact ih (i + 1) k (by omega) (by omega)

theorem path_is (k m : Nat) (h1 : 1 ≤ m) (h2 : m ≤ 1048576) (hk : 30 ≤ k) : tree_Path.f k (m : Int) = some (places m (lev m + 1)) := by
  have hb := lev_bounds m h1 h2
  unfold tree_Path.f
  rw [right_is, decide_eq_true (by omega), Option.bind_some, if_pos rfl, level_is k m h1 h2, Option.bind_some]
  have e := wrap_inc (lev m) (by omega)
  rw [e]
  exact path_goes m h1 h2 (lev m + 1) 0 k (by omega) (by omega)

theorem loop_is (m : Nat) (h1 : 1 ≤ m) (h2 : m ≤ 1048576) (d : Nat) : ∀ (i k : Nat), i + d = lev m + 1 → 20 + d < k →
    jostlelaw19_TreePaths.l0 k (m : Int) (places m (lev m + 1)) (i : Int) = some true := by
  have hb := lev_bounds m h1 h2
  have hlen : (places m (lev m + 1)).length = lev m + 1 := by unfold places; rw [List.length_map, List.length_range]
  induction d with
  | zero =>
    intro i k hi hk
    obtain ⟨k, rfl⟩ : ∃ j, k = j + 1 := ⟨k - 1, by omega⟩
    simp only [jostlelaw19_TreePaths.l0]
    rw [if_neg (by rw [hlen]; omega), lives_from k (by omega)]
    rfl
  | succ d ih =>
    intro i k hi hk
    obtain ⟨k, rfl⟩ : ∃ j, k = j + 1 := ⟨k - 1, by omega⟩
    have hpr := place_range m i h1 h2
    have e2 := wrap_inc i (by omega)
    have hgo := ih (i + 1) k (by omega) (by omega)
    have hlev : lev (place m i) = i := by
      unfold place
      rw [lev_shift m (lev m - i) h1 h2 (Nat.sub_le _ _)]
      omega
    simp only [jostlelaw19_TreePaths.l0]
    rw [if_pos (by rw [hlen]; omega), if_pos (by omega), rd_places m (lev m + 1) i (by omega), level_is k (place m i) hpr.1 (by omega), Option.bind_some, hlev, if_pos rfl, up_is k m i h1 h2, Option.bind_some, above_is m i (by omega), if_pos rfl, e2]
    by_cases h0 : (i : Int) > 0
    · rw [if_pos h0, parent_is (place m i) hpr.1 (by omega), Option.bind_some]
      have e3 := wrap_dec i (by omega) (by omega)
      rw [e3, if_pos (by omega), if_pos (by rw [hlen]; omega), rd_places m (lev m + 1) (i - 1) (by omega)]
      have e4 : place m i / 2 = place m (i - 1) := by
        unfold place
        rw [show lev m - (i - 1) = (lev m - i) + 1 by omega, Nat.pow_succ, Nat.div_div_eq_div_mul]
      rw [e4, if_pos rfl]
      exact hgo
    · rw [if_neg h0]
      exact hgo

theorem pure : jostlelaw19_TreePaths.Pure := by
  intro n _
  refine ⟨60, ?_⟩
  unfold jostlelaw19_TreePaths.f
  by_cases h : n ≥ 1 ∧ n ≤ 1048576
  · obtain ⟨m, rfl⟩ := Int.eq_ofNat_of_zero_le (show 0 ≤ n by omega)
    have h1 : 1 ≤ m := by omega
    have h2 : m ≤ 1048576 := by omega
    have hb := lev_bounds m h1 h2
    have hlen : (places m (lev m + 1)).length = lev m + 1 := by unfold places; rw [List.length_map, List.length_range]
    have hroot : place m 0 = 1 := by
      unfold place
      rw [Nat.sub_zero]
      refine Nat.div_eq_of_lt_le (by omega) ?_
      have := hb.2.2.1
      rw [Nat.pow_succ] at this
      omega
    have hlast : place m (lev m) = m := by
      unfold place
      rw [Nat.sub_self, Nat.pow_zero, Nat.div_one]
    rw [path_is 60 m h1 h2 (by omega), Option.bind_some, law_right_is, decide_eq_true h, Option.bind_some, if_pos rfl]
    have e0 := rd_places m (lev m + 1) 0 (by omega)
    have e1 : wrap64 (((places m (lev m + 1)).length : Int) - 1) = (lev m : Int) := by rw [hlen]; exact wrap_dec (lev m + 1) (by omega) (by omega)
    rw [if_neg (by rw [hlen]; omega), if_pos (by rw [hlen]; omega), show (0 : Int) = ((0 : Nat) : Int) from rfl, e0, hroot, if_pos (show ((1 : Nat) : Int) = 1 from rfl), e1, if_pos (by omega), if_pos (by rw [hlen]; omega), rd_places m (lev m + 1) (lev m) (by omega), hlast, if_pos rfl, level_is 60 m h1 h2, Option.bind_some]
    have e2 : ((((places m (lev m + 1)).length : Int)) != wrap64 ((lev m : Int) + 1)) = false := by
      rw [bne_eq_false_iff_eq, hlen, wrap_inc (lev m) (by omega)]
    rw [e2]
    simp only [jostlelaw19_TreePaths.j0, Bool.false_eq_true, if_false]
    exact loop_is m h1 h2 (lev m + 1) 0 59 (by omega) (by omega)
  · have hp : tree_Path.f 60 n = some [] := by
      unfold tree_Path.f
      rw [right_is, decide_eq_false h]
      rfl
    rw [hp, Option.bind_some, law_right_is, decide_eq_false h, Option.bind_some, if_neg Bool.false_ne_true, if_pos (show ((([] : List Int).length : Int)) = 0 from rfl), lives_from 60 (by omega)]
    rfl

theorem walk (n : Int) (w : World) (w0 : (Lit.int .i64 n).wf = true) :
    Calls Try.prog 11 #[.int .i64 n] w fun e w' => e = .returned (.bool true) ∧ Below w.heap.size w w' :=
  jostlelaw19_TreePaths.walk pure n w w0

end Go.Proofs.Ytegpplokfjojbaa.TreePathsPure
