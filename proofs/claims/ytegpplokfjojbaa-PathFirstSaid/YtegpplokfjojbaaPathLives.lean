/- What halving finds, and the walk of layer 20's example: First of ten numbers of which those from 4 on are true is 4. -/
import Derived.Test.YtegpplokfjojbaaFirstWalk
namespace Go.Proofs.Ytegpplokfjojbaa.PathLives
open Go.RowKit Go.Proofs.Ytegpplokfjojbaa.PPathCuts Go.Proofs.Ytegpplokfjojbaa.FirstWalk Go.Proofs.YtegpplokfjojbaaW.PrintWords Go.Proofs.YtegpplokfjojbaaW.PrintLast Go.Proofs.YtegpplokfjojbaaW.PrintMore
set_option linter.unusedVariables false
set_option linter.unusedSimpArgs false

/-- Of a row that is true from some number on that number is found, and it is asked at most h times where the row is at most 2^h long. -/
theorem halve_finds (v : Int) (k : Nat) : ∀ (h : Nat) (lo hi : Int), h ≤ k → hi - lo + 1 ≤ ((2 ^ h : Nat) : Int) → lo ≤ v → v ≤ hi →
    (halve (fun i => decide (i ≥ v)) k lo hi).1 = v ∧ (halve (fun i => decide (i ≥ v)) k lo hi).2 ≤ h := by
  induction k with
  | zero =>
    intro h lo hi hk hs h1 h2
    obtain rfl : h = 0 := by omega
    have : ((2 ^ 0 : Nat) : Int) = 1 := rfl
    refine ⟨?_, Nat.le_refl _⟩
    show lo = v
    omega
  | succ k ih =>
    intro h lo hi hk hs h1 h2
    rw [halve_step]
    by_cases hd : lo ≥ hi
    · rw [if_pos hd]
      exact ⟨by show lo = v; omega, Nat.zero_le _⟩
    · rw [if_neg hd]
      obtain ⟨h, rfl⟩ : ∃ j, h = j + 1 := by
        cases h with
        | zero => have : ((2 ^ 0 : Nat) : Int) = 1 := rfl; omega
        | succ j => exact ⟨j, rfl⟩
      have hp : ((2 ^ (h + 1) : Nat) : Int) = 2 * ((2 ^ h : Nat) : Int) := by rw [Nat.pow_succ]; omega
      by_cases hm : (lo + hi) / 2 ≥ v
      · rw [if_pos (decide_eq_true hm)]
        obtain ⟨r1, r2⟩ := ih h lo ((lo + hi) / 2) (by omega) (by omega) h1 (by omega)
        exact ⟨r1, Nat.succ_le_succ r2⟩
      · rw [if_neg (by rw [decide_eq_true_eq]; exact hm)]
        obtain ⟨r1, r2⟩ := ih h ((lo + hi) / 2 + 1) hi (by omega) (by omega) (by omega) h2
        exact ⟨r1, Nat.succ_le_succ r2⟩

/-- What is found lies within the row. -/
theorem halve_within (p : Int → Bool) (k : Nat) : ∀ lo hi : Int, lo ≤ hi → lo ≤ (halve p k lo hi).1 ∧ (halve p k lo hi).1 ≤ hi := by
  induction k with
  | zero =>
    intro lo hi h
    exact ⟨Int.le_refl _, h⟩
  | succ k ih =>
    intro lo hi h
    rw [halve_step]
    by_cases hd : lo ≥ hi
    · rw [if_pos hd]
      exact ⟨Int.le_refl _, h⟩
    · rw [if_neg hd]
      by_cases hm : p ((lo + hi) / 2) = true
      · rw [if_pos hm]
        have := ih lo ((lo + hi) / 2) (by omega)
        exact ⟨this.1, by show (halve p k lo ((lo + hi) / 2)).1 ≤ hi; omega⟩
      · rw [if_neg hm]
        have := ih ((lo + hi) / 2 + 1) hi (by omega)
        exact ⟨by show lo ≤ (halve p k ((lo + hi) / 2 + 1) hi).1; omega, this.2⟩

theorem four_calls (i : Int) (w : World) : Calls Try.prog 38 #[.int .i64 i] w fun e w' => e = .returned (.bool (decide (i ≥ 4))) ∧ w' = w := by
  go_enter Try.func38, Try.ntmps38
  go_wp2
  go_ret
  exact ⟨rfl, rfl⟩

theorem four_enters : Enters 38 #[] := fun i W => enters_ Try.func38 (by kernel_rfl) rfl _ W

theorem lives_calls (w : World) : Calls Try.prog 21 #[] w fun e w' => e = .returned (.bool true) ∧ Below w.heap.size w w' := by
  have hE := Aside0.mk four_enters
  have hT : Aside0 (Tells 38 #[] w.heap.size 10 (fun i => decide (i ≥ 4)) (fun _ W => Below w.heap.size w W)) := ⟨fun s i W h _ _ _ => (four_calls i W).mono (by rintro e W' ⟨rfl, rfl⟩; exact ⟨rfl, h, Nat.le_refl _, fun _ _ _ => rfl⟩)⟩
  have hK : Aside0 (Keeps w.heap.size (fun _ W => Below w.heap.size w W)) := ⟨fun _ _ _ h k => h.trans k⟩
  have hS : Aside0 ((fun _ W => Below w.heap.size w W) 0 w) := ⟨Below.refl _ _⟩
  have hr := Aside0.mk (halve_finds 4 31 4 0 (10 - 1) (by decide) (by decide) (by decide) (by decide)).1
  go_enter Try.func21, Try.ntmps21
  go_wp2_with (first | (go_at_call 26; (with_reducible refine (first_calls 38 #[] 10 (fun i => decide (i ≥ 4)) (fun _ W => Below w.heap.size w W) 0 w hE hT hK hS (by decide) (by decide)).mono ?_); rintro e w' ⟨rfl, hb⟩; rw [hr.out]; have HB := Aside0.mk hb; clear hb))
  go_ret
  exact ⟨rfl, HB.out⟩
end Go.Proofs.Ytegpplokfjojbaa.PathLives
