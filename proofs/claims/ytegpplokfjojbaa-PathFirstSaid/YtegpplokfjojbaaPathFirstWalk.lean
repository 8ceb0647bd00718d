/- The walk of PathFirst: for every two numbers (int) and every slice of bools the law returns true and what stood in memory stays as it was; there is no condition. -/
import Derived.Test.YtegpplokfjojbaaPathLives
namespace Go.Proofs.Ytegpplokfjojbaa.PathFirstWalk
open Go.RowKit Go.Proofs.Ytegpplokfjojbaa.PPathCuts Go.Proofs.Ytegpplokfjojbaa.FirstWalk Go.Proofs.Ytegpplokfjojbaa.PathLives Go.Proofs.YtegpplokfjojbaaW.PrintWords Go.Proofs.YtegpplokfjojbaaW.PrintLast Go.Proofs.YtegpplokfjojbaaW.PrintMore
attribute [local go_sem] max2_int min2_int max_two min_two max_three min_three max_four min_four func_nil nil_nil
set_option linter.unusedVariables false
set_option linter.unusedSimpArgs false

/-- A slice of bools that is read: each of its places holds one. -/
def Bools (w : World) (A : Option Addr) (len : Nat) (B : Nat → Bool) : Prop := ∀ k, k < len → ∃ x, A = some x ∧ w.cell? (x.add k) = some (.bool (B k))
theorem Bools.below {w w' : World} {A : Option Addr} {len : Nat} {B : Nat → Bool} (h : Bools w A len B) (hb : Below w.heap.size w w') : Bools w' A len B := fun k hk => by
  obtain ⟨x, e, hc⟩ := h k hk
  exact ⟨x, e, pw_cell_below hb hc⟩

/-- First of no number, and by no function, is 0. -/
theorem first_none (f : Fn) (n : Int) (w : World) (h : n < 1) : Calls Try.prog 26 #[.int .i64 n, .func f #[] #[]] w fun e w' => e = .returned (.int .i64 0) ∧ w' = w := by
  have g1 : decide (n < 1) = true := decide_eq_true h
  clear h
  go_enter Try.func26, Try.ntmps26
  go_wp2
  go_ret
  exact ⟨rfl, rfl⟩
theorem first_nil (n : Int) (w : World) : Calls Try.prog 26 #[.int .i64 n, .nilFunc] w fun e w' => e = .returned (.int .i64 0) ∧ w' = w := by
  go_enter Try.func26, Try.ntmps26
  go_wp2
  go_ret
  exact ⟨rfl, rfl⟩

/-- The first function: it counts, and tells whether a number is from some number on. -/
theorem asked_calls (i a f : Int) (ga gf : Nat) (w : World) (ha : Aside0 (w.heap[ga]? = some (.cells #[.int .i64 a] 3 (0, 0)))) (hf : Aside0 (w.heap[gf]? = some (.cells #[.int .i64 f] 3 (0, 0)))) (hne : gf ≠ ga) :
    Calls Try.prog 28 #[.int .i64 i, .pointer (some ⟨ga, 0, none⟩), .pointer (some ⟨gf, 0, none⟩)] w fun e w' => e = .returned (.bool (decide (i ≥ f))) ∧ w' = w.setCell ⟨ga, 0, none⟩ (.int .i64 (wrap64 (a + 1))) := by
  have c0 : w.cell? ⟨ga, 0, none⟩ = some (.int .i64 a) := (blk_cell ha.out 0).trans rfl
  have f0 := blk_frozen ha.out 0
  have c1 : (w.setCell ⟨ga, 0, none⟩ (.int .i64 (wrap64 (a + 1)))).cell? ⟨gf, 0, none⟩ = some (.int .i64 f) := (cell_far (p := ⟨ga, 0, none⟩) (a := ⟨gf, 0, none⟩) hne _).trans ((blk_cell hf.out 0).trans rfl)
  clear hne
  go_enter Try.func28, Try.ntmps28
  go_wp2
  go_ret
  exact ⟨rfl, rfl⟩

/-- The second function: what stands at a place, and false beyond. -/
def oddAt (len : Nat) (B : Nat → Bool) (i : Int) : Bool := if i < (len : Int) then B i.toNat else false
theorem odd_calls (i : Int) (h0 : 0 ≤ i) (A : Option Addr) (len cap : Nat) (B : Nat → Bool) (go : Nat) (w : World) (hr : Bools w A len B) (ho : Aside0 (w.heap[go]? = some (.cells #[.slice A len cap] 38 (0, 0)))) :
    Calls Try.prog 29 #[.int .i64 i, .pointer (some ⟨go, 0, none⟩)] w fun e w' => e = .returned (.bool (oddAt len B i)) ∧ w' = w := by
  have c0 : w.cell? ⟨go, 0, none⟩ = some (.slice A len cap) := (blk_cell ho.out 0).trans rfl
  unfold oddAt
  by_cases hi : i < (len : Int)
  · rw [if_pos hi]
    obtain ⟨x, rfl, hx⟩ := hr i.toNat (by omega)
    have g0 : decide (i < (len : Int)) = true := decide_eq_true hi
    have g1 : decide (i ≥ 0) = true := decide_eq_true h0
    replace h0 := eq_true h0
    replace hi := eq_true hi
    clear hr
    go_enter Try.func29, Try.ntmps29
    go_wp2
    go_ret
    exact ⟨rfl, rfl⟩
  · rw [if_neg hi]
    have g0 : decide (i < (len : Int)) = false := decide_eq_false hi
    clear hr hi
    go_enter Try.func29, Try.ntmps29
    go_wp2
    go_ret
    exact ⟨rfl, rfl⟩

theorem three_enters (caps : Array Value) : Enters 29 caps := fun i W => enters_ Try.func29 (by kernel_rfl) rfl _ W
theorem two_enters (caps : Array Value) : Enters 28 caps := fun i W => enters_ Try.func28 (by kernel_rfl) rfl _ W

set_option maxHeartbeats 1000000 in
set_option maxRecDepth 100000 in
/-- No row, or too long: the examples alone. -/
theorem far_calls (n from_ : Int) (A : Option Addr) (len cap : Nat) (w : World) (hf : n < 1 ∨ n > 1000000 ∨ (len : Int) > 1000) :
    Calls Try.prog 9 #[.int .i64 n, .int .i64 from_, .slice A len cap] w fun e w' => e = .returned (.bool true) ∧ Below w.heap.size w w' := by
  have HB := Aside0.mk (((Below.refl w.heap.size w).alloc (Nat.le_refl _) (.cells #[.int .i64 from_] 3)).alloc (by simp) (.cells #[.slice A len cap] 38))
  by_cases h1 : n < 1
  · have g1 : decide (n < 1) = true := decide_eq_true h1
    clear hf h1
    go_enter Try.func9, Try.ntmps9
    go_wp2_with (first | (go_at_call 26; (with_reducible refine (first_none _ 0 _ (by decide)).mono ?_); rintro e w' ⟨rfl, rfl⟩) | (go_at_call 26; (with_reducible refine (first_nil 5 _).mono ?_); rintro e w' ⟨rfl, rfl⟩) | (go_at_call 21; (with_reducible refine (lives_calls _).mono ?_); rintro e w' ⟨rfl, hb⟩; have HB2 := Aside0.mk (below_step HB.out hb); clear hb))
    go_ret
    exact ⟨rfl, HB2.out⟩
  · have g1 : decide (n < 1) = false := decide_eq_false h1
    by_cases h2 : n > 1000000
    · have g2 : decide (n > 1000000) = true := decide_eq_true h2
      clear hf h1 h2
      go_enter Try.func9, Try.ntmps9
      go_wp2_with (first | (go_at_call 26; (with_reducible refine (first_none _ 0 _ (by decide)).mono ?_); rintro e w' ⟨rfl, rfl⟩) | (go_at_call 26; (with_reducible refine (first_nil 5 _).mono ?_); rintro e w' ⟨rfl, rfl⟩) | (go_at_call 21; (with_reducible refine (lives_calls _).mono ?_); rintro e w' ⟨rfl, hb⟩; have HB2 := Aside0.mk (below_step HB.out hb); clear hb))
      go_ret
      exact ⟨rfl, HB2.out⟩
    · have g2 : decide (n > 1000000) = false := decide_eq_false h2
      have g3 : decide ((len : Int) > 1000) = true := by rw [decide_eq_true_eq]; omega
      clear hf h1 h2
      go_enter Try.func9, Try.ntmps9
      go_wp2_with (first | (go_at_call 26; (with_reducible refine (first_none _ 0 _ (by decide)).mono ?_); rintro e w' ⟨rfl, rfl⟩) | (go_at_call 26; (with_reducible refine (first_nil 5 _).mono ?_); rintro e w' ⟨rfl, rfl⟩) | (go_at_call 21; (with_reducible refine (lives_calls _).mono ?_); rintro e w' ⟨rfl, hb⟩; have HB2 := Aside0.mk (below_step HB.out hb); clear hb))
      go_ret
      exact ⟨rfl, HB2.out⟩

theorem wrap_none : wrap64 ((0 : Nat) : Int) = 0 := by unfold wrap64; omega
theorem wrap_next (q : Nat) : wrap64 (wrap64 (q : Int) + 1) = wrap64 ((q + 1 : Nat) : Int) := by unfold wrap64; omega
theorem wrap_few (q : Nat) (h : q ≤ 20) : wrap64 ((0 + q : Nat) : Int) = (q : Int) := by unfold wrap64; omega

theorem few (h : Nat) (H : 2 ^ h < 1000000) : h < 20 := by
  refine Nat.lt_of_not_le fun hle => ?_
  have : 2 ^ 20 ≤ 2 ^ h := Nat.pow_le_pow_right (by decide) hle
  omega

set_option maxHeartbeats 4000000 in
set_option maxRecDepth 100000 in
theorem near_calls (n from_ : Int) (A : Option Addr) (len cap : Nat) (B : Nat → Bool) (w : World) (hr : Aside0 (Bools w A len B)) (h1 : 1 ≤ n) (h2 : n ≤ 1000000) (h3 : (len : Int) ≤ 1000) :
    Calls Try.prog 9 #[.int .i64 n, .int .i64 from_, .slice A len cap] w fun e w' => e = .returned (.bool true) ∧ Below w.heap.size w w' := by
  have g1 : decide (n < 1) = false := by rw [decide_eq_false_iff_not]; omega
  have g2 : decide (n > 1000000) = false := by rw [decide_eq_false_iff_not]; omega
  have g3 : decide ((len : Int) > 1000) = false := by rw [decide_eq_false_iff_not]; omega
  obtain ⟨f1, hf1⟩ : ∃ x : Int, (if n - 1 < from_ then n - 1 else from_) = x := ⟨_, rfl⟩
  obtain ⟨f, hf⟩ : ∃ x : Int, (if 0 < f1 then f1 else 0) = x := ⟨_, rfl⟩
  have hfr := Aside0.mk (show 0 ≤ f ∧ f ≤ n - 1 by rw [← hf, ← hf1]; split <;> (try split) <;> omega)
  have HB := Aside0.mk (Below.refl w.heap.size w)
  go_enter Try.func9, Try.ntmps9
  go_wp2_with (first
    | ((with_reducible refine gate_dst (N := 4) rfl ?_); refine box_event ?hg (N := 4) ?hd (cs := #[.int .i64 from_]) (t := 3) ?hr ?_; (case hd => rfl); (case hg => rfl); (case hr => first | (go_simp; done) | (go_simp; rfl)); intro gf hg w1 hbox hb; have n0_ := Aside0.mk (below_step HB.out hb); have bf1 := Aside0.mk hbox; have GF := Aside0.mk (show w.heap.size ≤ gf by rw [hg]; exact HB.out.size); clear HB; have HB := n0_; clear n0_ hb hbox hg; have cf1 : w1.cell? ⟨gf, 0, none⟩ = some (.int .i64 from_) := (blk_cell bf1.out 0).trans rfl)
    | ((with_reducible refine gate_dst (N := 5) rfl ?_); refine box_event ?hg (N := 5) ?hd (cs := #[.slice A len cap]) (t := 38) ?hr ?_; (case hd => rfl); (case hg => rfl); (case hr => first | (go_simp; done) | (go_simp; rfl)); intro go hg w2 hbox hb; have n0_ := Aside0.mk (below_step HB.out hb); have bo2 := Aside0.mk hbox; have bf2 := Aside0.mk (blk_below bf1.out hb); have GO := Aside0.mk (show w.heap.size ≤ go by rw [hg]; exact HB.out.size); have NE := Aside0.mk (show go ≠ gf by rw [hg]; exact Nat.ne_of_gt (blk_lt bf1.out)); clear HB bf1 cf1; have HB := n0_; clear n0_ hb hbox hg; have cf2 : w2.cell? ⟨gf, 0, none⟩ = some (.int .i64 from_) := (blk_cell bf2.out 0).trans rfl; have ff2 := blk_frozen bf2.out 0; have co2 : w2.cell? ⟨go, 0, none⟩ = some (.slice A len cap) := (blk_cell bo2.out 0).trans rfl)
    | ((with_reducible refine gate_dst (N := 7) rfl ?_); have bf3 := Aside0.mk (blk_put (cs' := #[.int .i64 f]) bf2.out 0 (.int .i64 f) rfl); have bo3 := Aside0.mk (blk_far bo2.out (p := ⟨gf, 0, none⟩) NE.out (.int .i64 f)); have HB3 := Aside0.mk (HB.out.setCell (p := ⟨gf, 0, none⟩) GF.out (.int .i64 f)); clear HB bf2 bo2 cf2 ff2 co2; refine box_event ?hg (N := 7) ?hd (cs := #[.int .i64 0]) (t := 3) ?hr ?_; (case hd => rfl); (case hg => rfl); (case hr => first | (go_simp; done) | (go_simp; rfl)); intro ga hg w4 hbox hb; have HB := Aside0.mk (below_step HB3.out hb); have ba4 := Aside0.mk hbox; have bf4 := Aside0.mk (blk_below bf3.out hb); have bo4 := Aside0.mk (blk_below bo3.out hb); have GA := Aside0.mk (show w.heap.size ≤ ga by rw [hg]; exact HB3.out.size); have NA := Aside0.mk (show ga ≠ gf by rw [hg]; exact Nat.ne_of_gt (blk_lt bf3.out)); have NO := Aside0.mk (show ga ≠ go by rw [hg]; exact Nat.ne_of_gt (blk_lt bo3.out)); clear bf3 bo3 HB3 hb hbox hg; have ca4 : w4.cell? ⟨ga, 0, none⟩ = some (.int .i64 0) := (blk_cell ba4.out 0).trans rfl; have fa4 := blk_frozen ba4.out 0))
  have ba5 := Aside0.mk (blk_put (cs' := #[.int .i64 0]) ba4.out 0 (.int .i64 0) rfl)
  have bf5 := Aside0.mk (blk_far bf4.out (p := ⟨ga, 0, none⟩) (Ne.symm NA.out) (.int .i64 0))
  have bo5 := Aside0.mk (blk_far bo4.out (p := ⟨ga, 0, none⟩) (Ne.symm NO.out) (.int .i64 0))
  have HB5 := Aside0.mk (HB.out.setCell (p := ⟨ga, 0, none⟩) GA.out (.int .i64 0))
  clear HB ba4 bf4 bo4 ca4 fa4 g1 g2 g3 hf1 hf
  generalize w4.setCell _ _ = w5 at ba5 bf5 bo5 HB5 ⊢
  go_loop [8, 9] (fun a b => ∃ (h m : Nat), a = .int .i64 h ∧ b = .int .i64 m ∧ Aside0 (m = 2 ^ h ∧ (m : Int) < 2 * n ∧ 1 ≤ m ∧ h ≤ 20)) (fun _ b => n.toNat - (intOf b).toNat)
  case atStart => exact ⟨0, 1, rfl, rfl, ⟨rfl, by omega, Nat.le_refl _, Nat.zero_le _⟩⟩
  case round =>
    obtain ⟨h, m, rfl, rfl, hm⟩ := hrel
    have hb := hm.out.2
    obtain ⟨hb1, hb2, hb3⟩ := hb
    by_cases hlt : (m : Int) < n
    · have hm2 := Aside0.mk (show 2 * m = 2 ^ (h + 1) ∧ ((2 * m : Nat) : Int) < 2 * n ∧ 1 ≤ 2 * m ∧ h + 1 ≤ 20 from by
        have := hm.out.1
        have f := few h (by omega)
        exact ⟨by rw [Nat.pow_succ]; omega, by omega, by omega, by omega⟩)
      clear hm
      go_wp2
      go_round
      case rel => exact ⟨h + 1, 2 * m, by go_num, by go_num, hm2⟩
      case measure => simp [intOf]; omega
    · have hfind := Aside0.mk (halve_finds f 31 h 0 (n - 1) (by omega) (by have := hm.out.1; rw [← this]; omega) hfr.out.1 hfr.out.2)
      have hwithin := Aside0.mk (halve_within (oddAt len B) 31 0 (n - 1) (by omega))
      have G : ∀ W', Below w5.heap.size w5 W' → (W'.heap[gf]? = some (.cells #[.int .i64 f] 3 (0, 0)) ∧ W'.heap[go]? = some (.cells #[.slice A len cap] 38 (0, 0))) := fun W' hb => ⟨blk_below bf5.out hb, blk_below bo5.out hb⟩
      have hE := Aside0.mk (two_enters #[.pointer (some ⟨ga, 0, none⟩), .pointer (some ⟨gf, 0, none⟩)])
      obtain ⟨S, hSd⟩ : ∃ S : Nat → World → Prop, S = fun (q : Nat) (W : World) => Below w.heap.size w W ∧ W.heap[ga]? = some (.cells #[.int .i64 (wrap64 (q : Int))] 3 (0, 0)) ∧ W.heap[gf]? = some (.cells #[.int .i64 f] 3 (0, 0)) ∧ W.heap[go]? = some (.cells #[.slice A len cap] 38 (0, 0)) := ⟨_, rfl⟩
      have hS := Aside0.mk (show S 0 w5 by rw [hSd]; refine ⟨HB5.out, ?_, bf5.out, bo5.out⟩; rw [show wrap64 ((0 : Nat) : Int) = 0 from wrap_none]; exact ba5.out)
      have lga := blk_lt ba5.out
      have lgf := blk_lt bf5.out
      have lgo := blk_lt bo5.out
      have hK := Aside0.mk (show Keeps w5.heap.size S from by
        intro q W W' hs hb
        rw [hSd] at hs ⊢
        obtain ⟨s1, s2, s3, s4⟩ := hs
        exact ⟨s1.trans (hb.mono HB5.out.size), (hb.block _ lga).trans s2, (hb.block _ lgf).trans s3, (hb.block _ lgo).trans s4⟩)
      have hT := Aside0.mk (show Tells 28 #[.pointer (some ⟨ga, 0, none⟩), .pointer (some ⟨gf, 0, none⟩)] w5.heap.size n (fun i => decide (i ≥ f)) S from by
        intro q i W hs hi0 hin hB
        rw [hSd] at hs
        obtain ⟨s1, s2, s3, s4⟩ := hs
        refine (asked_calls i (wrap64 q) f ga gf W ⟨s2⟩ ⟨s3⟩ (Ne.symm NA.out)).mono ?_
        rintro e W' ⟨rfl, rfl⟩
        refine ⟨rfl, ?_, by simp [World.setCell], fun g hg hlt => Below.heap_setCell _ _ _ _ (by show g ≠ ga; omega)⟩
        rw [hSd]
        have hw := wrap_next q
        refine ⟨s1.setCell (p := ⟨ga, 0, none⟩) GA.out _, ?_, blk_far s3 (p := ⟨ga, 0, none⟩) (Ne.symm NA.out) _, blk_far s4 (p := ⟨ga, 0, none⟩) (Ne.symm NO.out) _⟩
        rw [← hw]
        exact blk_put s2 0 _ rfl)
      have hSd' := Aside0.mk hSd
      clear hSd G lga lgf lgo ba5 bf5 bo5 HB5 hm hb1 hb2
      go_wp2_with fail
      refine (first_calls 28 #[.pointer (some ⟨ga, 0, none⟩), .pointer (some ⟨gf, 0, none⟩)] n (fun i => decide (i ≥ f)) S 0 w5 hE hT hK hS h1 h2).mono ?_
      rintro e w6 ⟨rfl, hs6⟩
      rw [hfind.out.1]
      obtain ⟨q1, hq1⟩ : ∃ q : Nat, (halve (fun i => decide (i ≥ f)) 31 0 (n - 1)).2 = q := ⟨_, rfl⟩
      rw [hSd'.out, hq1] at hs6
      have hq2 := hfind.out.2
      rw [hq1] at hq2
      obtain ⟨s1, s2, s3, s4⟩ := hs6
      rw [wrap_few q1 (by omega)] at s2
      have hB6 := Aside0.mk s1
      have ba6 := Aside0.mk s2
      have bf6 := Aside0.mk s3
      have bo6 := Aside0.mk s4
      have hE2 := Aside0.mk (three_enters #[.pointer (some ⟨go, 0, none⟩)])
      have hS2 := Aside0.mk (show (fun (_ : Nat) (W : World) => Below w6.heap.size w6 W) 0 w6 from Below.refl _ _)
      have hK2 := Aside0.mk (show Keeps w6.heap.size (fun (_ : Nat) (W : World) => Below w6.heap.size w6 W) from fun _ _ _ a b => a.trans b)
      have hT2 := Aside0.mk (show Tells 29 #[.pointer (some ⟨go, 0, none⟩)] w6.heap.size n (oddAt len B) (fun (_ : Nat) (W : World) => Below w6.heap.size w6 W) from by
        intro q i W hs hi0 hin hB
        refine (odd_calls i hi0 A len cap B go W ((hr.out.below hB6.out).below hs) ⟨blk_below bo6.out hs⟩).mono ?_
        rintro e W' ⟨rfl, rfl⟩
        exact ⟨rfl, hs, Nat.le_refl _, fun _ _ _ => rfl⟩)
      clear hq1 hSd' hS hK hT hE s1 s2 s3 s4 hfind
      go_wp2_with fail
      refine (first_calls 29 #[.pointer (some ⟨go, 0, none⟩)] n (oddAt len B) (fun (_ : Nat) (W : World) => Below w6.heap.size w6 W) 0 w6 hE2 hT2 hK2 hS2 h1 h2).mono ?_
      rintro e w7 ⟨rfl, hb7⟩
      obtain ⟨r, hr1⟩ : ∃ r : Int, (halve (oddAt len B) 31 0 (n - 1)).1 = r := ⟨_, rfl⟩
      have hw := hwithin.out
      rw [hr1] at hw ⊢
      have hB7 := Aside0.mk (below_step hB6.out hb7)
      have cf7 : w7.cell? ⟨gf, 0, none⟩ = some (.int .i64 f) := (blk_cell (blk_below bf6.out hb7) 0).trans rfl
      have ca7 : w7.cell? ⟨ga, 0, none⟩ = some (.int .i64 q1) := (blk_cell (blk_below ba6.out hb7) 0).trans rfl
      have t1 : decide ((q1 : Int) ≤ (h : Int)) = true := by rw [decide_eq_true_eq]; omega
      have t1' : decide (q1 ≤ h) = true := by rw [decide_eq_true_eq]; omega
      have t2 : decide (r ≥ 0) = true := by rw [decide_eq_true_eq]; omega
      have t3 : decide (r < n) = true := by rw [decide_eq_true_eq]; omega
      clear hr1 hw hwithin hb7 hT2 hK2 hS2 hE2 hq2
      go_wp2_with (first | (go_at_call 21; (with_reducible refine (lives_calls _).mono ?_); rintro e w' ⟨rfl, hb⟩; have HB2 := Aside0.mk (below_step hB7.out hb); clear hb))
      go_ret
      exact ⟨rfl, HB2.out⟩

theorem walk (n from_ : Int) (A : Option Addr) (len cap : Nat) (B : Nat → Bool) (w : World) (hr : Bools w A len B) :
    Calls Try.prog 9 #[.int .i64 n, .int .i64 from_, .slice A len cap] w fun e w' => e = .returned (.bool true) ∧ Below w.heap.size w w' := by
  by_cases h : n < 1 ∨ n > 1000000 ∨ (len : Int) > 1000
  · exact far_calls n from_ A len cap w h
  · exact near_calls n from_ A len cap B w ⟨hr⟩ (by omega) (by omega) (by omega)

end Go.Proofs.Ytegpplokfjojbaa.PathFirstWalk
