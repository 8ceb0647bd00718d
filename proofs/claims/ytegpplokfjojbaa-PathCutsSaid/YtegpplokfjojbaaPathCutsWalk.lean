/- The walk of PathCuts: for every number (int) and every slice of bools the law returns true and what stood in memory stays as it was; there is no condition. -/
import Derived.Test.YtegpplokfjojbaaPathLives
namespace Go.Proofs.Ytegpplokfjojbaa.PathCutsWalk
open Go.RowKit Go.Proofs.Ytegpplokfjojbaa.PPathCuts Go.Proofs.Ytegpplokfjojbaa.FirstWalk Go.Proofs.Ytegpplokfjojbaa.PathLives Go.Proofs.YtegpplokfjojbaaW.PrintWords Go.Proofs.YtegpplokfjojbaaW.PrintLast Go.Proofs.YtegpplokfjojbaaW.PrintMore
attribute [local go_sem] max2_int min2_int max_two min_two max_three min_three max_four min_four
set_option linter.unusedVariables false
set_option linter.unusedSimpArgs false

/-- A slice of bools that is read: each of its places holds one. -/
def Bools (w : World) (A : Option Addr) (len : Nat) (B : Nat → Bool) : Prop := ∀ k, k < len → ∃ x, A = some x ∧ w.cell? (x.add k) = some (.bool (B k))
theorem Bools.below {w w' : World} {A : Option Addr} {len : Nat} {B : Nat → Bool} (h : Bools w A len B) (hb : Below w.heap.size w w') : Bools w' A len B := fun k hk => by
  obtain ⟨x, e, hc⟩ := h k hk
  exact ⟨x, e, pw_cell_below hb hc⟩

set_option maxHeartbeats 1000000 in
set_option maxRecDepth 100000 in
/-- Too long, or too great: the example alone. -/
theorem far_calls (n : Int) (A : Option Addr) (len cap : Nat) (w : World) (hf : len > 200 ∨ n > 1000000) :
    Calls Try.prog 7 #[.int .i64 n, .slice A len cap] w fun e w' => e = .returned (.bool true) ∧ Below w.heap.size w w' := by
  by_cases h1 : (len : Int) > 200
  · have g1 : decide ((len : Int) > 200) = true := decide_eq_true h1
    clear hf h1
    go_enter Try.func7, Try.ntmps7
    go_wp2_with (first | (go_at_call 21; (with_reducible refine (lives_calls _).mono ?_); rintro e w' ⟨rfl, hb⟩; have HB := Aside0.mk hb; clear hb))
    go_ret
    exact ⟨rfl, HB.out⟩
  · have g1 : decide ((len : Int) > 200) = false := decide_eq_false h1
    have g2 : decide (n > 1000000) = true := by rw [decide_eq_true_eq]; omega
    clear hf h1
    go_enter Try.func7, Try.ntmps7
    go_wp2_with (first | (go_at_call 21; (with_reducible refine (lives_calls _).mono ?_); rintro e w' ⟨rfl, hb⟩; have HB := Aside0.mk hb; clear hb))
    go_ret
    exact ⟨rfl, HB.out⟩

set_option maxHeartbeats 8000000 in
set_option maxRecDepth 100000 in
theorem near_pos (n : Int) (A : Option Addr) (len cap : Nat) (B : Nat → Bool) (w : World) (hr : Aside0 (Bools w A len B)) (hl : len ≤ 200) (h2 : n ≤ 1000000) (hn : n > 0) (hfew : 0 < n) :
    Calls Try.prog 7 #[.int .i64 n, .slice A len cap] w fun e w' => e = .returned (.bool true) ∧ Below w.heap.size w w' := by
  have hu40 := Try.underlying40
  have HB := Aside0.mk (Below.refl w.heap.size w)
  have hN1 := Aside0.mk (show path_New.f n = some (0, n - 1) from by
    unfold path_New.f mx
    congr 2
    split <;> (unfold wrap64; omega))
  have g1 : decide ((len : Int) > 200) = false := by rw [decide_eq_false_iff_not]; omega
  have g2 : decide (n > 1000000) = false := by rw [decide_eq_false_iff_not]; omega
  have g3 : decide (n > 0) = true := by rw [decide_eq_true_eq]; omega
  have hhi := Aside0.mk (show (0 : Int) ≤ n - 1 ∧ n - 1 < 1000000 by omega)
  have hN := Aside0.mk hn
  clear hn
  go_enter Try.func7, Try.ntmps7
  go_wp2_with (first | ((with_reducible refine gate_callee (f := 22) rfl ?_); refine goesL_ (some 19) rfl rfl Try.func22 (by kernel_rfl) rfl #[.int .i64 n] rfl (by (try simp only [List.map_toArray, List.map_cons, List.map_nil]); first | done | rfl) ?_; (with_reducible refine (path_New.calls n 0 (n - 1) _ hN1.out).mono ?_); rintro e w1 ⟨rfl, hb1⟩; refine ⟨_, rfl, ?_⟩; have n0_ := Aside0.mk (below_step HB.out hb1); clear HB; have HB := n0_; clear n0_ hb1) | ((with_reducible refine gate_dst (N := 5) rfl ?_); refine box_event ?hg (N := 5) ?hd (cs := #[.int .i64 0, .int .i64 0]) (t := 40) ?hr ?_; (case hd => rfl); (case hg => rfl); (case hr => first | (go_simp; done) | (go_simp; rfl)); intro g hg w2 hbox hb; have n0_ := Aside0.mk (below_step HB.out hb); have BK := Aside0.mk hbox; have GW := Aside0.mk (show w.heap.size ≤ g by rw [hg]; exact HB.out.size); clear HB; have HB := n0_; clear n0_ hb hbox hg; have hcz0 : w2.cell? ⟨g, 0, none⟩ = some (.int .i64 0) := (blk_cell BK.out 0).trans rfl; have hcz1 : w2.cell? ⟨g, 1, none⟩ = some (.int .i64 0) := (blk_cell BK.out 1).trans rfl; have hfz0 := blk_frozen BK.out 0; have hfz1 := blk_frozen BK.out 1))
  have n0_ := Aside0.mk (blk_put (cs := #[.int .i64 0, .int .i64 0]) (cs' := #[.int .i64 0, .int .i64 0]) BK.out 0 (.int .i64 0) rfl)
  have n1_ := Aside0.mk (blk_put (cs' := #[.int .i64 0, .int .i64 (n - 1)]) n0_.out 1 (.int .i64 (n - 1)) rfl)
  have n2_ := Aside0.mk ((HB.out.setCell (p := ⟨g, 0, none⟩) GW.out (.int .i64 0)).setCell (p := ⟨g, 1, none⟩) GW.out (.int .i64 (n - 1)))
  clear HB BK n0_ hcz0 hcz1 hfz0 hfz1
  go_loopw [6, 7, 8] (fun lo hi i wr => ∃ (k : Nat) (l h : Int), lo = .int .i64 l ∧ hi = .int .i64 h ∧ i = .int .i64 k ∧ k ≤ len ∧ Aside0 (0 ≤ l ∧ l ≤ h ∧ h < 1000000) ∧ Aside0 (wr.heap[g]? = some (.cells #[.int .i64 l, .int .i64 h] 40 (0, 0))) ∧ Aside0 (Below w.heap.size w wr)) (fun _ _ i _ => len - (intOf i).toNat)
  case atStart => exact ⟨0, 0, n - 1, rfl, rfl, rfl, Nat.zero_le _, ⟨by have := hhi.out; omega⟩, n1_, n2_⟩
  case round =>
    clear n1_ n2_ g1 g2 g3 hN1 hhi hN h2
    obtain ⟨k, l, h, rfl, rfl, rfl, hkl, hlh, hblk, hbel⟩ := hrel
    have c0 : wr.cell? ⟨g, 0, none⟩ = some (.int .i64 l) := (blk_cell hblk.out 0).trans rfl
    have c1 : wr.cell? ⟨g, 1, none⟩ = some (.int .i64 h) := (blk_cell hblk.out 1).trans rfl
    by_cases hk : k < len
    · obtain ⟨x, rfl, _⟩ := hr.out k hk
      by_cases hd : l ≥ h
      · cases hBk : B k
        · have hD := Aside0.mk (show path_Span_Done.f l h = some true by rw [done_is, decide_eq_true hd])
          have hM := Aside0.mk (show path_Span_Mid.f l h = some ((l + h) / 2) from by have := hlh.out; exact mid_is l h (by omega) (by omega) (by omega))
          have hC := Aside0.mk (show path_Span_Cut.f l h false = some (l, h) from by
            have := hlh.out
            unfold path_Span_Cut.f; rw [hD.out]; simp only [Option.bind_some]; rfl)
          have hnew := Aside0.mk (show 0 ≤ l ∧ l ≤ h ∧ h < 1000000 from by have := hlh.out; omega)
          have hrng := hlh.out
          obtain ⟨r1, r2, r3⟩ := hrng
          have d0 : decide (h ≤ l) = true := decide_eq_true hd
          have p1 : (0 : Int) ≤ (k : Int) := Int.natCast_nonneg _
          have p2 : (k : Int) < (len : Int) := by omega
          go_wp2_with (first | ((with_reducible refine gate_callee (f := 23) rfl ?_); refine goesL_ (some 35) rfl rfl Try.func23 (by kernel_rfl) rfl #[.agg #[.int .i64 l, .int .i64 h]] rfl (by (try simp only [List.map_toArray, List.map_cons, List.map_nil]); first | done | rfl) ?_; (with_reducible refine (path_Span_Done.calls l h true _ hD.out).mono ?_); rintro e w4 ⟨rfl, hb1⟩; refine ⟨_, rfl, ?_⟩; have bk4 := Aside0.mk (blk_below hblk.out hb1); have hb4 := Aside0.mk (below_step hbel.out hb1); clear hblk hbel hb1; have c40 : w4.cell? ⟨g, 0, none⟩ = some (.int .i64 l) := (blk_cell bk4.out 0).trans rfl; have c41 : w4.cell? ⟨g, 1, none⟩ = some (.int .i64 h) := (blk_cell bk4.out 1).trans rfl) | (go_at_call 24; (with_reducible refine (path_Span_Mid.calls l h ((l + h) / 2) _ hM.out).mono ?_); rintro e w5 ⟨rfl, hb1⟩; have bk5 := Aside0.mk (blk_below bk4.out hb1); have hb5 := Aside0.mk (below_step hb4.out hb1); clear bk4 hb4 c40 c41 hb1; have c50 : w5.cell? ⟨g, 0, none⟩ = some (.int .i64 l) := (blk_cell bk5.out 0).trans rfl; have c51 : w5.cell? ⟨g, 1, none⟩ = some (.int .i64 h) := (blk_cell bk5.out 1).trans rfl))
          have bk6 := Aside0.mk (blk_drew bk5.out)
          have hb6 := Aside0.mk (below_drew1 hb5.out)
          obtain ⟨x', ex, hx6⟩ := (hr.out.below hb6.out) k hk
          obtain rfl : x = x' := by simpa using ex
          rw [hBk] at hx6
          clear ex
          refine start_ (n := 7) (S := fun w' => w'.cell? ⟨g, 0, none⟩ = some (.int .i64 l) ∧ w'.cell? ⟨g, 1, none⟩ = some (.int .i64 h) ∧ w'.cell? (x.add k) = some (.bool false)) (ds := [6]) #[false, false, false, false, false, false, false] (by kernel_rfl) rfl rfl ⟨(blk_cell bk6.out 0).trans rfl, (blk_cell bk6.out 1).trans rfl, hx6⟩ (fun hHeld => ?_)
          clear c50 c51 bk5 hb5 hx6
          generalize w5.drew = w6 at bk6 hb6 hHeld ⊢
          refine pure_ (i := 1) (N := some 59) (v := ?_) (a' := ?_) #[false, true, false, false, false, false, false] rfl rfl (by kernel_rfl) (fun _ _ _ h => h) (Or.inl ⟨by rfl, ?_⟩) ?_ ?_
          rotate_left
          · intro w'
            go_simp
            with_reducible rfl
          rotate_left
          · simp only [Act.put, List.setIfInBounds_toArray, List.set_cons_zero, List.set_cons_succ, i64_w, i32_w]
            rfl
          refine pure_ (i := 2) (N := some 60) (v := ?_) (a' := ?_) #[false, true, true, false, false, false, false] rfl rfl (by kernel_rfl) (fun _ _ _ h => h) (Or.inl ⟨by rfl, ?_⟩) ?_ ?_
          rotate_left
          · intro w'
            go_simp
            with_reducible rfl
          rotate_left
          · simp only [Act.put, List.setIfInBounds_toArray, List.set_cons_zero, List.set_cons_succ, i64_w, i32_w]
            rfl
          refine pure_ (i := 3) (N := some 61) (v := ?_) (a' := ?_) #[false, true, true, true, false, false, false] rfl rfl (by kernel_rfl) (fun _ _ _ h => h) (Or.inl ⟨by rfl, ?_⟩) ?_ ?_
          rotate_left
          · intro w'
            go_simp
            with_reducible rfl
          rotate_left
          · simp only [Act.put, List.setIfInBounds_toArray, List.set_cons_zero, List.set_cons_succ, i64_w, i32_w]
            rfl
          refine take_ (i := 0) (N := some 58) (v := ?_) (a' := ?_) #[true, true, true, true, false, false, false] rfl rfl (by kernel_rfl) (fun _ _ _ h => h) (Or.inl ⟨by rfl, ?_⟩) hHeld ?_ ?_
          rotate_left
          · rintro w' ⟨s0, s1, s2⟩
            go_simp
            with_reducible rfl
          rotate_left
          · simp only [Act.put, List.setIfInBounds_toArray, List.set_cons_zero, List.set_cons_succ, i64_w, i32_w]
            rfl
          refine take_ (i := 4) (N := some 62) (v := ?_) (a' := ?_) #[true, true, true, true, true, false, false] rfl rfl (by kernel_rfl) (fun _ _ _ h => h) (Or.inl ⟨by rfl, ?_⟩) hHeld ?_ ?_
          rotate_left
          · rintro w' ⟨s0, s1, s2⟩
            go_simp
            with_reducible rfl
          rotate_left
          · simp only [Act.put, List.setIfInBounds_toArray, List.set_cons_zero, List.set_cons_succ, i64_w, i32_w]
            rfl
          refine one_ (i := 5) (N := some 63) #[true, true, true, true, true, true, false] rfl rfl (by kernel_rfl) (by decide) (fun K hK => ?_)
          refine goes_ Try.func25 (by kernel_rfl) rfl #[.agg #[.int .i64 l, .int .i64 h], .bool false] (by rfl) rfl rfl (by (try simp only [List.map_toArray, List.map_cons, List.map_nil]); first | done | rfl) ?_
          with_reducible refine (path_Span_Cut.calls l h false _ _ _ hC.out).mono ?_
          rintro e w7 ⟨rfl, hb1⟩
          refine ⟨_, rfl, ?_⟩
          have bk7 := Aside0.mk (blk_below bk6.out hb1)
          have hb7 := Aside0.mk (below_step hb6.out hb1)
          have hx7 := pw_cell_below hb1 hHeld.2.2
          clear bk6 hb6 hb1
          refine hK.out _ _ ⟨(blk_cell bk7.out 0).trans rfl, (blk_cell bk7.out 1).trans rfl, hx7⟩ (fun hHeld => ?_)
          clear hK K
          refine norm_ (a' := ?_) ?_ ?_
          rotate_left
          · show Act.put _ (some 63) _ = _
            simp only [Act.put, List.setIfInBounds_toArray, List.set_cons_zero, List.set_cons_succ, i64_w, i32_w]
            rfl
          refine last_ (i := 6) (N := none) #[true, true, true, true, true, true, true] rfl rfl (by kernel_rfl) (by decide) (fun K hK => ?_)
          have e0 : w7.cell? ⟨g, 0, none⟩ = some (.int .i64 l) := (blk_cell bk7.out 0).trans rfl
          have e1 : w7.cell? ⟨g, 1, none⟩ = some (.int .i64 h) := (blk_cell bk7.out 1).trans rfl
          have f0 := blk_frozen bk7.out 0
          have f1 := blk_frozen bk7.out 1
          refine skip_ (w1 := ?_) (by rfl) rfl ?_ ?_
          rotate_left
          · go_simp
            rfl
          refine hK.out _ _ ?_
          clear hK K
          refine done_ (by kernel_rfl) ?_
          have bk9 := Aside0.mk (blk_put (cs' := #[.int .i64 l, .int .i64 h]) (blk_put (cs' := #[.int .i64 l, .int .i64 h]) bk7.out 0 (.int .i64 l) rfl) 1 (.int .i64 h) rfl)
          have hb9 := Aside0.mk ((hb7.out.setCell (p := ⟨g, 0, none⟩) GW.out (.int .i64 l)).setCell (p := ⟨g, 1, none⟩) GW.out (.int .i64 h))
          clear bk7 hb7 e0 e1 f0 f1 hHeld hx7
          generalize (w7.setCell _ _).setCell _ _ = w9 at bk9 hb9 ⊢
          obtain ⟨x', ex, hx9⟩ := (hr.out.below hb9.out) k hk
          obtain rfl : x = x' := by simpa using ex
          rw [hBk] at hx9
          clear ex
          go_wp2
          go_roundw
          case rel => exact ⟨k + 1, l, h, rfl, rfl, by go_num, by omega, hnew, bk9, hb9⟩
          case measure => simp [intOf]; omega
        · have hD := Aside0.mk (show path_Span_Done.f l h = some true by rw [done_is, decide_eq_true hd])
          have hM := Aside0.mk (show path_Span_Mid.f l h = some ((l + h) / 2) from by have := hlh.out; exact mid_is l h (by omega) (by omega) (by omega))
          have hC := Aside0.mk (show path_Span_Cut.f l h true = some (l, h) from by
            have := hlh.out
            unfold path_Span_Cut.f; rw [hD.out]; simp only [Option.bind_some]; rfl)
          have hnew := Aside0.mk (show 0 ≤ l ∧ l ≤ h ∧ h < 1000000 from by have := hlh.out; omega)
          have hrng := hlh.out
          obtain ⟨r1, r2, r3⟩ := hrng
          have d0 : decide (h ≤ l) = true := decide_eq_true hd
          have p1 : (0 : Int) ≤ (k : Int) := Int.natCast_nonneg _
          have p2 : (k : Int) < (len : Int) := by omega
          go_wp2_with (first | ((with_reducible refine gate_callee (f := 23) rfl ?_); refine goesL_ (some 35) rfl rfl Try.func23 (by kernel_rfl) rfl #[.agg #[.int .i64 l, .int .i64 h]] rfl (by (try simp only [List.map_toArray, List.map_cons, List.map_nil]); first | done | rfl) ?_; (with_reducible refine (path_Span_Done.calls l h true _ hD.out).mono ?_); rintro e w4 ⟨rfl, hb1⟩; refine ⟨_, rfl, ?_⟩; have bk4 := Aside0.mk (blk_below hblk.out hb1); have hb4 := Aside0.mk (below_step hbel.out hb1); clear hblk hbel hb1; have c40 : w4.cell? ⟨g, 0, none⟩ = some (.int .i64 l) := (blk_cell bk4.out 0).trans rfl; have c41 : w4.cell? ⟨g, 1, none⟩ = some (.int .i64 h) := (blk_cell bk4.out 1).trans rfl) | (go_at_call 24; (with_reducible refine (path_Span_Mid.calls l h ((l + h) / 2) _ hM.out).mono ?_); rintro e w5 ⟨rfl, hb1⟩; have bk5 := Aside0.mk (blk_below bk4.out hb1); have hb5 := Aside0.mk (below_step hb4.out hb1); clear bk4 hb4 c40 c41 hb1; have c50 : w5.cell? ⟨g, 0, none⟩ = some (.int .i64 l) := (blk_cell bk5.out 0).trans rfl; have c51 : w5.cell? ⟨g, 1, none⟩ = some (.int .i64 h) := (blk_cell bk5.out 1).trans rfl))
          have bk6 := Aside0.mk (blk_drew bk5.out)
          have hb6 := Aside0.mk (below_drew1 hb5.out)
          obtain ⟨x', ex, hx6⟩ := (hr.out.below hb6.out) k hk
          obtain rfl : x = x' := by simpa using ex
          rw [hBk] at hx6
          clear ex
          refine start_ (n := 7) (S := fun w' => w'.cell? ⟨g, 0, none⟩ = some (.int .i64 l) ∧ w'.cell? ⟨g, 1, none⟩ = some (.int .i64 h) ∧ w'.cell? (x.add k) = some (.bool true)) (ds := [6]) #[false, false, false, false, false, false, false] (by kernel_rfl) rfl rfl ⟨(blk_cell bk6.out 0).trans rfl, (blk_cell bk6.out 1).trans rfl, hx6⟩ (fun hHeld => ?_)
          clear c50 c51 bk5 hb5 hx6
          generalize w5.drew = w6 at bk6 hb6 hHeld ⊢
          refine pure_ (i := 1) (N := some 59) (v := ?_) (a' := ?_) #[false, true, false, false, false, false, false] rfl rfl (by kernel_rfl) (fun _ _ _ h => h) (Or.inl ⟨by rfl, ?_⟩) ?_ ?_
          rotate_left
          · intro w'
            go_simp
            with_reducible rfl
          rotate_left
          · simp only [Act.put, List.setIfInBounds_toArray, List.set_cons_zero, List.set_cons_succ, i64_w, i32_w]
            rfl
          refine pure_ (i := 2) (N := some 60) (v := ?_) (a' := ?_) #[false, true, true, false, false, false, false] rfl rfl (by kernel_rfl) (fun _ _ _ h => h) (Or.inl ⟨by rfl, ?_⟩) ?_ ?_
          rotate_left
          · intro w'
            go_simp
            with_reducible rfl
          rotate_left
          · simp only [Act.put, List.setIfInBounds_toArray, List.set_cons_zero, List.set_cons_succ, i64_w, i32_w]
            rfl
          refine pure_ (i := 3) (N := some 61) (v := ?_) (a' := ?_) #[false, true, true, true, false, false, false] rfl rfl (by kernel_rfl) (fun _ _ _ h => h) (Or.inl ⟨by rfl, ?_⟩) ?_ ?_
          rotate_left
          · intro w'
            go_simp
            with_reducible rfl
          rotate_left
          · simp only [Act.put, List.setIfInBounds_toArray, List.set_cons_zero, List.set_cons_succ, i64_w, i32_w]
            rfl
          refine take_ (i := 0) (N := some 58) (v := ?_) (a' := ?_) #[true, true, true, true, false, false, false] rfl rfl (by kernel_rfl) (fun _ _ _ h => h) (Or.inl ⟨by rfl, ?_⟩) hHeld ?_ ?_
          rotate_left
          · rintro w' ⟨s0, s1, s2⟩
            go_simp
            with_reducible rfl
          rotate_left
          · simp only [Act.put, List.setIfInBounds_toArray, List.set_cons_zero, List.set_cons_succ, i64_w, i32_w]
            rfl
          refine take_ (i := 4) (N := some 62) (v := ?_) (a' := ?_) #[true, true, true, true, true, false, false] rfl rfl (by kernel_rfl) (fun _ _ _ h => h) (Or.inl ⟨by rfl, ?_⟩) hHeld ?_ ?_
          rotate_left
          · rintro w' ⟨s0, s1, s2⟩
            go_simp
            with_reducible rfl
          rotate_left
          · simp only [Act.put, List.setIfInBounds_toArray, List.set_cons_zero, List.set_cons_succ, i64_w, i32_w]
            rfl
          refine one_ (i := 5) (N := some 63) #[true, true, true, true, true, true, false] rfl rfl (by kernel_rfl) (by decide) (fun K hK => ?_)
          refine goes_ Try.func25 (by kernel_rfl) rfl #[.agg #[.int .i64 l, .int .i64 h], .bool true] (by rfl) rfl rfl (by (try simp only [List.map_toArray, List.map_cons, List.map_nil]); first | done | rfl) ?_
          with_reducible refine (path_Span_Cut.calls l h true _ _ _ hC.out).mono ?_
          rintro e w7 ⟨rfl, hb1⟩
          refine ⟨_, rfl, ?_⟩
          have bk7 := Aside0.mk (blk_below bk6.out hb1)
          have hb7 := Aside0.mk (below_step hb6.out hb1)
          have hx7 := pw_cell_below hb1 hHeld.2.2
          clear bk6 hb6 hb1
          refine hK.out _ _ ⟨(blk_cell bk7.out 0).trans rfl, (blk_cell bk7.out 1).trans rfl, hx7⟩ (fun hHeld => ?_)
          clear hK K
          refine norm_ (a' := ?_) ?_ ?_
          rotate_left
          · show Act.put _ (some 63) _ = _
            simp only [Act.put, List.setIfInBounds_toArray, List.set_cons_zero, List.set_cons_succ, i64_w, i32_w]
            rfl
          refine last_ (i := 6) (N := none) #[true, true, true, true, true, true, true] rfl rfl (by kernel_rfl) (by decide) (fun K hK => ?_)
          have e0 : w7.cell? ⟨g, 0, none⟩ = some (.int .i64 l) := (blk_cell bk7.out 0).trans rfl
          have e1 : w7.cell? ⟨g, 1, none⟩ = some (.int .i64 h) := (blk_cell bk7.out 1).trans rfl
          have f0 := blk_frozen bk7.out 0
          have f1 := blk_frozen bk7.out 1
          refine skip_ (w1 := ?_) (by rfl) rfl ?_ ?_
          rotate_left
          · go_simp
            rfl
          refine hK.out _ _ ?_
          clear hK K
          refine done_ (by kernel_rfl) ?_
          have bk9 := Aside0.mk (blk_put (cs' := #[.int .i64 l, .int .i64 h]) (blk_put (cs' := #[.int .i64 l, .int .i64 h]) bk7.out 0 (.int .i64 l) rfl) 1 (.int .i64 h) rfl)
          have hb9 := Aside0.mk ((hb7.out.setCell (p := ⟨g, 0, none⟩) GW.out (.int .i64 l)).setCell (p := ⟨g, 1, none⟩) GW.out (.int .i64 h))
          clear bk7 hb7 e0 e1 f0 f1 hHeld hx7
          generalize (w7.setCell _ _).setCell _ _ = w9 at bk9 hb9 ⊢
          obtain ⟨x', ex, hx9⟩ := (hr.out.below hb9.out) k hk
          obtain rfl : x = x' := by simpa using ex
          rw [hBk] at hx9
          clear ex
          go_wp2
          go_roundw
          case rel => exact ⟨k + 1, l, h, rfl, rfl, by go_num, by omega, hnew, bk9, hb9⟩
          case measure => simp [intOf]; omega
      · cases hBk : B k
        · have hD := Aside0.mk (show path_Span_Done.f l h = some false by rw [done_is, decide_eq_false hd])
          have hM := Aside0.mk (show path_Span_Mid.f l h = some ((l + h) / 2) from by have := hlh.out; exact mid_is l h (by omega) (by omega) (by omega))
          have hC := Aside0.mk (show path_Span_Cut.f l h false = some (((l + h) / 2 + 1), h) from by
            have := hlh.out
            rw [cut_is l h false (by omega) (by omega) (by omega)]; rfl)
          have hnew := Aside0.mk (show 0 ≤ ((l + h) / 2 + 1) ∧ ((l + h) / 2 + 1) ≤ h ∧ h < 1000000 from by have := hlh.out; omega)
          have hrng := hlh.out
          obtain ⟨r1, r2, r3⟩ := hrng
          have d0 : decide (h ≤ l) = false := decide_eq_false hd
          have p1 : (0 : Int) ≤ (k : Int) := Int.natCast_nonneg _
          have p2 : (k : Int) < (len : Int) := by omega
          go_wp2_with (first | ((with_reducible refine gate_callee (f := 23) rfl ?_); refine goesL_ (some 35) rfl rfl Try.func23 (by kernel_rfl) rfl #[.agg #[.int .i64 l, .int .i64 h]] rfl (by (try simp only [List.map_toArray, List.map_cons, List.map_nil]); first | done | rfl) ?_; (with_reducible refine (path_Span_Done.calls l h false _ hD.out).mono ?_); rintro e w4 ⟨rfl, hb1⟩; refine ⟨_, rfl, ?_⟩; have bk4 := Aside0.mk (blk_below hblk.out hb1); have hb4 := Aside0.mk (below_step hbel.out hb1); clear hblk hbel hb1; have c40 : w4.cell? ⟨g, 0, none⟩ = some (.int .i64 l) := (blk_cell bk4.out 0).trans rfl; have c41 : w4.cell? ⟨g, 1, none⟩ = some (.int .i64 h) := (blk_cell bk4.out 1).trans rfl) | (go_at_call 24; (with_reducible refine (path_Span_Mid.calls l h ((l + h) / 2) _ hM.out).mono ?_); rintro e w5 ⟨rfl, hb1⟩; have bk5 := Aside0.mk (blk_below bk4.out hb1); have hb5 := Aside0.mk (below_step hb4.out hb1); clear bk4 hb4 c40 c41 hb1; have c50 : w5.cell? ⟨g, 0, none⟩ = some (.int .i64 l) := (blk_cell bk5.out 0).trans rfl; have c51 : w5.cell? ⟨g, 1, none⟩ = some (.int .i64 h) := (blk_cell bk5.out 1).trans rfl))
          have bk6 := Aside0.mk (blk_drew bk5.out)
          have hb6 := Aside0.mk (below_drew1 hb5.out)
          obtain ⟨x', ex, hx6⟩ := (hr.out.below hb6.out) k hk
          obtain rfl : x = x' := by simpa using ex
          rw [hBk] at hx6
          clear ex
          refine start_ (n := 7) (S := fun w' => w'.cell? ⟨g, 0, none⟩ = some (.int .i64 l) ∧ w'.cell? ⟨g, 1, none⟩ = some (.int .i64 h) ∧ w'.cell? (x.add k) = some (.bool false)) (ds := [6]) #[false, false, false, false, false, false, false] (by kernel_rfl) rfl rfl ⟨(blk_cell bk6.out 0).trans rfl, (blk_cell bk6.out 1).trans rfl, hx6⟩ (fun hHeld => ?_)
          clear c50 c51 bk5 hb5 hx6
          generalize w5.drew = w6 at bk6 hb6 hHeld ⊢
          refine pure_ (i := 1) (N := some 59) (v := ?_) (a' := ?_) #[false, true, false, false, false, false, false] rfl rfl (by kernel_rfl) (fun _ _ _ h => h) (Or.inl ⟨by rfl, ?_⟩) ?_ ?_
          rotate_left
          · intro w'
            go_simp
            with_reducible rfl
          rotate_left
          · simp only [Act.put, List.setIfInBounds_toArray, List.set_cons_zero, List.set_cons_succ, i64_w, i32_w]
            rfl
          refine pure_ (i := 2) (N := some 60) (v := ?_) (a' := ?_) #[false, true, true, false, false, false, false] rfl rfl (by kernel_rfl) (fun _ _ _ h => h) (Or.inl ⟨by rfl, ?_⟩) ?_ ?_
          rotate_left
          · intro w'
            go_simp
            with_reducible rfl
          rotate_left
          · simp only [Act.put, List.setIfInBounds_toArray, List.set_cons_zero, List.set_cons_succ, i64_w, i32_w]
            rfl
          refine pure_ (i := 3) (N := some 61) (v := ?_) (a' := ?_) #[false, true, true, true, false, false, false] rfl rfl (by kernel_rfl) (fun _ _ _ h => h) (Or.inl ⟨by rfl, ?_⟩) ?_ ?_
          rotate_left
          · intro w'
            go_simp
            with_reducible rfl
          rotate_left
          · simp only [Act.put, List.setIfInBounds_toArray, List.set_cons_zero, List.set_cons_succ, i64_w, i32_w]
            rfl
          refine take_ (i := 0) (N := some 58) (v := ?_) (a' := ?_) #[true, true, true, true, false, false, false] rfl rfl (by kernel_rfl) (fun _ _ _ h => h) (Or.inl ⟨by rfl, ?_⟩) hHeld ?_ ?_
          rotate_left
          · rintro w' ⟨s0, s1, s2⟩
            go_simp
            with_reducible rfl
          rotate_left
          · simp only [Act.put, List.setIfInBounds_toArray, List.set_cons_zero, List.set_cons_succ, i64_w, i32_w]
            rfl
          refine take_ (i := 4) (N := some 62) (v := ?_) (a' := ?_) #[true, true, true, true, true, false, false] rfl rfl (by kernel_rfl) (fun _ _ _ h => h) (Or.inl ⟨by rfl, ?_⟩) hHeld ?_ ?_
          rotate_left
          · rintro w' ⟨s0, s1, s2⟩
            go_simp
            with_reducible rfl
          rotate_left
          · simp only [Act.put, List.setIfInBounds_toArray, List.set_cons_zero, List.set_cons_succ, i64_w, i32_w]
            rfl
          refine one_ (i := 5) (N := some 63) #[true, true, true, true, true, true, false] rfl rfl (by kernel_rfl) (by decide) (fun K hK => ?_)
          refine goes_ Try.func25 (by kernel_rfl) rfl #[.agg #[.int .i64 l, .int .i64 h], .bool false] (by rfl) rfl rfl (by (try simp only [List.map_toArray, List.map_cons, List.map_nil]); first | done | rfl) ?_
          with_reducible refine (path_Span_Cut.calls l h false _ _ _ hC.out).mono ?_
          rintro e w7 ⟨rfl, hb1⟩
          refine ⟨_, rfl, ?_⟩
          have bk7 := Aside0.mk (blk_below bk6.out hb1)
          have hb7 := Aside0.mk (below_step hb6.out hb1)
          have hx7 := pw_cell_below hb1 hHeld.2.2
          clear bk6 hb6 hb1
          refine hK.out _ _ ⟨(blk_cell bk7.out 0).trans rfl, (blk_cell bk7.out 1).trans rfl, hx7⟩ (fun hHeld => ?_)
          clear hK K
          refine norm_ (a' := ?_) ?_ ?_
          rotate_left
          · show Act.put _ (some 63) _ = _
            simp only [Act.put, List.setIfInBounds_toArray, List.set_cons_zero, List.set_cons_succ, i64_w, i32_w]
            rfl
          refine last_ (i := 6) (N := none) #[true, true, true, true, true, true, true] rfl rfl (by kernel_rfl) (by decide) (fun K hK => ?_)
          have e0 : w7.cell? ⟨g, 0, none⟩ = some (.int .i64 l) := (blk_cell bk7.out 0).trans rfl
          have e1 : w7.cell? ⟨g, 1, none⟩ = some (.int .i64 h) := (blk_cell bk7.out 1).trans rfl
          have f0 := blk_frozen bk7.out 0
          have f1 := blk_frozen bk7.out 1
          refine skip_ (w1 := ?_) (by rfl) rfl ?_ ?_
          rotate_left
          · go_simp
            rfl
          refine hK.out _ _ ?_
          clear hK K
          refine done_ (by kernel_rfl) ?_
          have bk9 := Aside0.mk (blk_put (cs' := #[.int .i64 ((l + h) / 2 + 1), .int .i64 h]) (blk_put (cs' := #[.int .i64 ((l + h) / 2 + 1), .int .i64 h]) bk7.out 0 (.int .i64 ((l + h) / 2 + 1)) rfl) 1 (.int .i64 h) rfl)
          have hb9 := Aside0.mk ((hb7.out.setCell (p := ⟨g, 0, none⟩) GW.out (.int .i64 ((l + h) / 2 + 1))).setCell (p := ⟨g, 1, none⟩) GW.out (.int .i64 h))
          clear bk7 hb7 e0 e1 f0 f1 hHeld hx7
          generalize (w7.setCell _ _).setCell _ _ = w9 at bk9 hb9 ⊢
          obtain ⟨x', ex, hx9⟩ := (hr.out.below hb9.out) k hk
          obtain rfl : x = x' := by simpa using ex
          rw [hBk] at hx9
          clear ex
          go_wp2
          go_roundw
          case rel => exact ⟨k + 1, ((l + h) / 2 + 1), h, rfl, rfl, by go_num, by omega, hnew, bk9, hb9⟩
          case measure => simp [intOf]; omega
        · have hD := Aside0.mk (show path_Span_Done.f l h = some false by rw [done_is, decide_eq_false hd])
          have hM := Aside0.mk (show path_Span_Mid.f l h = some ((l + h) / 2) from by have := hlh.out; exact mid_is l h (by omega) (by omega) (by omega))
          have hC := Aside0.mk (show path_Span_Cut.f l h true = some (l, ((l + h) / 2)) from by
            have := hlh.out
            rw [cut_is l h true (by omega) (by omega) (by omega)]; rfl)
          have hnew := Aside0.mk (show 0 ≤ l ∧ l ≤ ((l + h) / 2) ∧ ((l + h) / 2) < 1000000 from by have := hlh.out; omega)
          have hrng := hlh.out
          obtain ⟨r1, r2, r3⟩ := hrng
          have d0 : decide (h ≤ l) = false := decide_eq_false hd
          have p1 : (0 : Int) ≤ (k : Int) := Int.natCast_nonneg _
          have p2 : (k : Int) < (len : Int) := by omega
          go_wp2_with (first | ((with_reducible refine gate_callee (f := 23) rfl ?_); refine goesL_ (some 35) rfl rfl Try.func23 (by kernel_rfl) rfl #[.agg #[.int .i64 l, .int .i64 h]] rfl (by (try simp only [List.map_toArray, List.map_cons, List.map_nil]); first | done | rfl) ?_; (with_reducible refine (path_Span_Done.calls l h false _ hD.out).mono ?_); rintro e w4 ⟨rfl, hb1⟩; refine ⟨_, rfl, ?_⟩; have bk4 := Aside0.mk (blk_below hblk.out hb1); have hb4 := Aside0.mk (below_step hbel.out hb1); clear hblk hbel hb1; have c40 : w4.cell? ⟨g, 0, none⟩ = some (.int .i64 l) := (blk_cell bk4.out 0).trans rfl; have c41 : w4.cell? ⟨g, 1, none⟩ = some (.int .i64 h) := (blk_cell bk4.out 1).trans rfl) | (go_at_call 24; (with_reducible refine (path_Span_Mid.calls l h ((l + h) / 2) _ hM.out).mono ?_); rintro e w5 ⟨rfl, hb1⟩; have bk5 := Aside0.mk (blk_below bk4.out hb1); have hb5 := Aside0.mk (below_step hb4.out hb1); clear bk4 hb4 c40 c41 hb1; have c50 : w5.cell? ⟨g, 0, none⟩ = some (.int .i64 l) := (blk_cell bk5.out 0).trans rfl; have c51 : w5.cell? ⟨g, 1, none⟩ = some (.int .i64 h) := (blk_cell bk5.out 1).trans rfl))
          have bk6 := Aside0.mk (blk_drew bk5.out)
          have hb6 := Aside0.mk (below_drew1 hb5.out)
          obtain ⟨x', ex, hx6⟩ := (hr.out.below hb6.out) k hk
          obtain rfl : x = x' := by simpa using ex
          rw [hBk] at hx6
          clear ex
          refine start_ (n := 7) (S := fun w' => w'.cell? ⟨g, 0, none⟩ = some (.int .i64 l) ∧ w'.cell? ⟨g, 1, none⟩ = some (.int .i64 h) ∧ w'.cell? (x.add k) = some (.bool true)) (ds := [6]) #[false, false, false, false, false, false, false] (by kernel_rfl) rfl rfl ⟨(blk_cell bk6.out 0).trans rfl, (blk_cell bk6.out 1).trans rfl, hx6⟩ (fun hHeld => ?_)
          clear c50 c51 bk5 hb5 hx6
          generalize w5.drew = w6 at bk6 hb6 hHeld ⊢
          refine pure_ (i := 1) (N := some 59) (v := ?_) (a' := ?_) #[false, true, false, false, false, false, false] rfl rfl (by kernel_rfl) (fun _ _ _ h => h) (Or.inl ⟨by rfl, ?_⟩) ?_ ?_
          rotate_left
          · intro w'
            go_simp
            with_reducible rfl
          rotate_left
          · simp only [Act.put, List.setIfInBounds_toArray, List.set_cons_zero, List.set_cons_succ, i64_w, i32_w]
            rfl
          refine pure_ (i := 2) (N := some 60) (v := ?_) (a' := ?_) #[false, true, true, false, false, false, false] rfl rfl (by kernel_rfl) (fun _ _ _ h => h) (Or.inl ⟨by rfl, ?_⟩) ?_ ?_
          rotate_left
          · intro w'
            go_simp
            with_reducible rfl
          rotate_left
          · simp only [Act.put, List.setIfInBounds_toArray, List.set_cons_zero, List.set_cons_succ, i64_w, i32_w]
            rfl
          refine pure_ (i := 3) (N := some 61) (v := ?_) (a' := ?_) #[false, true, true, true, false, false, false] rfl rfl (by kernel_rfl) (fun _ _ _ h => h) (Or.inl ⟨by rfl, ?_⟩) ?_ ?_
          rotate_left
          · intro w'
            go_simp
            with_reducible rfl
          rotate_left
          · simp only [Act.put, List.setIfInBounds_toArray, List.set_cons_zero, List.set_cons_succ, i64_w, i32_w]
            rfl
          refine take_ (i := 0) (N := some 58) (v := ?_) (a' := ?_) #[true, true, true, true, false, false, false] rfl rfl (by kernel_rfl) (fun _ _ _ h => h) (Or.inl ⟨by rfl, ?_⟩) hHeld ?_ ?_
          rotate_left
          · rintro w' ⟨s0, s1, s2⟩
            go_simp
            with_reducible rfl
          rotate_left
          · simp only [Act.put, List.setIfInBounds_toArray, List.set_cons_zero, List.set_cons_succ, i64_w, i32_w]
            rfl
          refine take_ (i := 4) (N := some 62) (v := ?_) (a' := ?_) #[true, true, true, true, true, false, false] rfl rfl (by kernel_rfl) (fun _ _ _ h => h) (Or.inl ⟨by rfl, ?_⟩) hHeld ?_ ?_
          rotate_left
          · rintro w' ⟨s0, s1, s2⟩
            go_simp
            with_reducible rfl
          rotate_left
          · simp only [Act.put, List.setIfInBounds_toArray, List.set_cons_zero, List.set_cons_succ, i64_w, i32_w]
            rfl
          refine one_ (i := 5) (N := some 63) #[true, true, true, true, true, true, false] rfl rfl (by kernel_rfl) (by decide) (fun K hK => ?_)
          refine goes_ Try.func25 (by kernel_rfl) rfl #[.agg #[.int .i64 l, .int .i64 h], .bool true] (by rfl) rfl rfl (by (try simp only [List.map_toArray, List.map_cons, List.map_nil]); first | done | rfl) ?_
          with_reducible refine (path_Span_Cut.calls l h true _ _ _ hC.out).mono ?_
          rintro e w7 ⟨rfl, hb1⟩
          refine ⟨_, rfl, ?_⟩
          have bk7 := Aside0.mk (blk_below bk6.out hb1)
          have hb7 := Aside0.mk (below_step hb6.out hb1)
          have hx7 := pw_cell_below hb1 hHeld.2.2
          clear bk6 hb6 hb1
          refine hK.out _ _ ⟨(blk_cell bk7.out 0).trans rfl, (blk_cell bk7.out 1).trans rfl, hx7⟩ (fun hHeld => ?_)
          clear hK K
          refine norm_ (a' := ?_) ?_ ?_
          rotate_left
          · show Act.put _ (some 63) _ = _
            simp only [Act.put, List.setIfInBounds_toArray, List.set_cons_zero, List.set_cons_succ, i64_w, i32_w]
            rfl
          refine last_ (i := 6) (N := none) #[true, true, true, true, true, true, true] rfl rfl (by kernel_rfl) (by decide) (fun K hK => ?_)
          have e0 : w7.cell? ⟨g, 0, none⟩ = some (.int .i64 l) := (blk_cell bk7.out 0).trans rfl
          have e1 : w7.cell? ⟨g, 1, none⟩ = some (.int .i64 h) := (blk_cell bk7.out 1).trans rfl
          have f0 := blk_frozen bk7.out 0
          have f1 := blk_frozen bk7.out 1
          refine skip_ (w1 := ?_) (by rfl) rfl ?_ ?_
          rotate_left
          · go_simp
            rfl
          refine hK.out _ _ ?_
          clear hK K
          refine done_ (by kernel_rfl) ?_
          have bk9 := Aside0.mk (blk_put (cs' := #[.int .i64 l, .int .i64 ((l + h) / 2)]) (blk_put (cs' := #[.int .i64 l, .int .i64 h]) bk7.out 0 (.int .i64 l) rfl) 1 (.int .i64 ((l + h) / 2)) rfl)
          have hb9 := Aside0.mk ((hb7.out.setCell (p := ⟨g, 0, none⟩) GW.out (.int .i64 l)).setCell (p := ⟨g, 1, none⟩) GW.out (.int .i64 ((l + h) / 2)))
          clear bk7 hb7 e0 e1 f0 f1 hHeld hx7
          generalize (w7.setCell _ _).setCell _ _ = w9 at bk9 hb9 ⊢
          obtain ⟨x', ex, hx9⟩ := (hr.out.below hb9.out) k hk
          obtain rfl : x = x' := by simpa using ex
          rw [hBk] at hx9
          clear ex
          go_wp2
          go_roundw
          case rel => exact ⟨k + 1, l, ((l + h) / 2), rfl, rfl, by go_num, by omega, hnew, bk9, hb9⟩
          case measure => simp [intOf]; omega
    · obtain rfl : k = len := by omega
      go_wp2_with (first | (go_at_call 21; (with_reducible refine (lives_calls _).mono ?_); rintro e w' ⟨rfl, hb1⟩; have hb4 := Aside0.mk (below_step hbel.out hb1); clear hb1))
      go_ret
      exact ⟨rfl, hb4.out⟩

set_option maxHeartbeats 8000000 in
set_option maxRecDepth 100000 in
theorem near_neg (n : Int) (A : Option Addr) (len cap : Nat) (B : Nat → Bool) (w : World) (hr : Aside0 (Bools w A len B)) (hl : len ≤ 200) (h2 : n ≤ 1000000) (hn : ¬ n > 0) (hfew : n ≤ 0) :
    Calls Try.prog 7 #[.int .i64 n, .slice A len cap] w fun e w' => e = .returned (.bool true) ∧ Below w.heap.size w w' := by
  have hu40 := Try.underlying40
  have HB := Aside0.mk (Below.refl w.heap.size w)
  have hN1 := Aside0.mk (show path_New.f n = some (0, 0) from by
    unfold path_New.f mx
    congr 2
    split <;> (unfold wrap64; omega))
  have g1 : decide ((len : Int) > 200) = false := by rw [decide_eq_false_iff_not]; omega
  have g2 : decide (n > 1000000) = false := by rw [decide_eq_false_iff_not]; omega
  have g3 : decide (n > 0) = false := by rw [decide_eq_false_iff_not]; omega
  have hhi := Aside0.mk (show (0 : Int) ≤ 0 ∧ 0 < 1000000 by omega)
  have hN := Aside0.mk hn
  clear hn
  go_enter Try.func7, Try.ntmps7
  go_wp2_with (first | ((with_reducible refine gate_callee (f := 22) rfl ?_); refine goesL_ (some 19) rfl rfl Try.func22 (by kernel_rfl) rfl #[.int .i64 n] rfl (by (try simp only [List.map_toArray, List.map_cons, List.map_nil]); first | done | rfl) ?_; (with_reducible refine (path_New.calls n 0 (0) _ hN1.out).mono ?_); rintro e w1 ⟨rfl, hb1⟩; refine ⟨_, rfl, ?_⟩; have n0_ := Aside0.mk (below_step HB.out hb1); clear HB; have HB := n0_; clear n0_ hb1) | ((with_reducible refine gate_dst (N := 5) rfl ?_); refine box_event ?hg (N := 5) ?hd (cs := #[.int .i64 0, .int .i64 0]) (t := 40) ?hr ?_; (case hd => rfl); (case hg => rfl); (case hr => first | (go_simp; done) | (go_simp; rfl)); intro g hg w2 hbox hb; have n0_ := Aside0.mk (below_step HB.out hb); have BK := Aside0.mk hbox; have GW := Aside0.mk (show w.heap.size ≤ g by rw [hg]; exact HB.out.size); clear HB; have HB := n0_; clear n0_ hb hbox hg; have hcz0 : w2.cell? ⟨g, 0, none⟩ = some (.int .i64 0) := (blk_cell BK.out 0).trans rfl; have hcz1 : w2.cell? ⟨g, 1, none⟩ = some (.int .i64 0) := (blk_cell BK.out 1).trans rfl; have hfz0 := blk_frozen BK.out 0; have hfz1 := blk_frozen BK.out 1))
  have n0_ := Aside0.mk (blk_put (cs := #[.int .i64 0, .int .i64 0]) (cs' := #[.int .i64 0, .int .i64 0]) BK.out 0 (.int .i64 0) rfl)
  have n1_ := Aside0.mk (blk_put (cs' := #[.int .i64 0, .int .i64 (0)]) n0_.out 1 (.int .i64 (0)) rfl)
  have n2_ := Aside0.mk ((HB.out.setCell (p := ⟨g, 0, none⟩) GW.out (.int .i64 0)).setCell (p := ⟨g, 1, none⟩) GW.out (.int .i64 (0)))
  clear HB BK n0_ hcz0 hcz1 hfz0 hfz1
  go_loopw [6, 7, 8] (fun lo hi i wr => ∃ (k : Nat) (l h : Int), lo = .int .i64 l ∧ hi = .int .i64 h ∧ i = .int .i64 k ∧ k ≤ len ∧ Aside0 (0 ≤ l ∧ l ≤ h ∧ h < 1000000) ∧ Aside0 (wr.heap[g]? = some (.cells #[.int .i64 l, .int .i64 h] 40 (0, 0))) ∧ Aside0 (Below w.heap.size w wr)) (fun _ _ i _ => len - (intOf i).toNat)
  case atStart => exact ⟨0, 0, 0, rfl, rfl, rfl, Nat.zero_le _, ⟨by have := hhi.out; omega⟩, n1_, n2_⟩
  case round =>
    clear n1_ n2_ g1 g2 g3 hN1 hhi hN h2
    obtain ⟨k, l, h, rfl, rfl, rfl, hkl, hlh, hblk, hbel⟩ := hrel
    have c0 : wr.cell? ⟨g, 0, none⟩ = some (.int .i64 l) := (blk_cell hblk.out 0).trans rfl
    have c1 : wr.cell? ⟨g, 1, none⟩ = some (.int .i64 h) := (blk_cell hblk.out 1).trans rfl
    by_cases hk : k < len
    · obtain ⟨x, rfl, _⟩ := hr.out k hk
      by_cases hd : l ≥ h
      · cases hBk : B k
        · have hD := Aside0.mk (show path_Span_Done.f l h = some true by rw [done_is, decide_eq_true hd])
          have hM := Aside0.mk (show path_Span_Mid.f l h = some ((l + h) / 2) from by have := hlh.out; exact mid_is l h (by omega) (by omega) (by omega))
          have hC := Aside0.mk (show path_Span_Cut.f l h false = some (l, h) from by
            have := hlh.out
            unfold path_Span_Cut.f; rw [hD.out]; simp only [Option.bind_some]; rfl)
          have hnew := Aside0.mk (show 0 ≤ l ∧ l ≤ h ∧ h < 1000000 from by have := hlh.out; omega)
          have hrng := hlh.out
          obtain ⟨r1, r2, r3⟩ := hrng
          have d0 : decide (h ≤ l) = true := decide_eq_true hd
          have p1 : (0 : Int) ≤ (k : Int) := Int.natCast_nonneg _
          have p2 : (k : Int) < (len : Int) := by omega
          go_wp2_with (first | ((with_reducible refine gate_callee (f := 23) rfl ?_); refine goesL_ (some 35) rfl rfl Try.func23 (by kernel_rfl) rfl #[.agg #[.int .i64 l, .int .i64 h]] rfl (by (try simp only [List.map_toArray, List.map_cons, List.map_nil]); first | done | rfl) ?_; (with_reducible refine (path_Span_Done.calls l h true _ hD.out).mono ?_); rintro e w4 ⟨rfl, hb1⟩; refine ⟨_, rfl, ?_⟩; have bk4 := Aside0.mk (blk_below hblk.out hb1); have hb4 := Aside0.mk (below_step hbel.out hb1); clear hblk hbel hb1; have c40 : w4.cell? ⟨g, 0, none⟩ = some (.int .i64 l) := (blk_cell bk4.out 0).trans rfl; have c41 : w4.cell? ⟨g, 1, none⟩ = some (.int .i64 h) := (blk_cell bk4.out 1).trans rfl) | (go_at_call 24; (with_reducible refine (path_Span_Mid.calls l h ((l + h) / 2) _ hM.out).mono ?_); rintro e w5 ⟨rfl, hb1⟩; have bk5 := Aside0.mk (blk_below bk4.out hb1); have hb5 := Aside0.mk (below_step hb4.out hb1); clear bk4 hb4 c40 c41 hb1; have c50 : w5.cell? ⟨g, 0, none⟩ = some (.int .i64 l) := (blk_cell bk5.out 0).trans rfl; have c51 : w5.cell? ⟨g, 1, none⟩ = some (.int .i64 h) := (blk_cell bk5.out 1).trans rfl))
          have bk6 := Aside0.mk (blk_drew bk5.out)
          have hb6 := Aside0.mk (below_drew1 hb5.out)
          obtain ⟨x', ex, hx6⟩ := (hr.out.below hb6.out) k hk
          obtain rfl : x = x' := by simpa using ex
          rw [hBk] at hx6
          clear ex
          refine start_ (n := 7) (S := fun w' => w'.cell? ⟨g, 0, none⟩ = some (.int .i64 l) ∧ w'.cell? ⟨g, 1, none⟩ = some (.int .i64 h) ∧ w'.cell? (x.add k) = some (.bool false)) (ds := [6]) #[false, false, false, false, false, false, false] (by kernel_rfl) rfl rfl ⟨(blk_cell bk6.out 0).trans rfl, (blk_cell bk6.out 1).trans rfl, hx6⟩ (fun hHeld => ?_)
          clear c50 c51 bk5 hb5 hx6
          generalize w5.drew = w6 at bk6 hb6 hHeld ⊢
          refine pure_ (i := 1) (N := some 59) (v := ?_) (a' := ?_) #[false, true, false, false, false, false, false] rfl rfl (by kernel_rfl) (fun _ _ _ h => h) (Or.inl ⟨by rfl, ?_⟩) ?_ ?_
          rotate_left
          · intro w'
            go_simp
            with_reducible rfl
          rotate_left
          · simp only [Act.put, List.setIfInBounds_toArray, List.set_cons_zero, List.set_cons_succ, i64_w, i32_w]
            rfl
          refine pure_ (i := 2) (N := some 60) (v := ?_) (a' := ?_) #[false, true, true, false, false, false, false] rfl rfl (by kernel_rfl) (fun _ _ _ h => h) (Or.inl ⟨by rfl, ?_⟩) ?_ ?_
          rotate_left
          · intro w'
            go_simp
            with_reducible rfl
          rotate_left
          · simp only [Act.put, List.setIfInBounds_toArray, List.set_cons_zero, List.set_cons_succ, i64_w, i32_w]
            rfl
          refine pure_ (i := 3) (N := some 61) (v := ?_) (a' := ?_) #[false, true, true, true, false, false, false] rfl rfl (by kernel_rfl) (fun _ _ _ h => h) (Or.inl ⟨by rfl, ?_⟩) ?_ ?_
          rotate_left
          · intro w'
            go_simp
            with_reducible rfl
          rotate_left
          · simp only [Act.put, List.setIfInBounds_toArray, List.set_cons_zero, List.set_cons_succ, i64_w, i32_w]
            rfl
          refine take_ (i := 0) (N := some 58) (v := ?_) (a' := ?_) #[true, true, true, true, false, false, false] rfl rfl (by kernel_rfl) (fun _ _ _ h => h) (Or.inl ⟨by rfl, ?_⟩) hHeld ?_ ?_
          rotate_left
          · rintro w' ⟨s0, s1, s2⟩
            go_simp
            with_reducible rfl
          rotate_left
          · simp only [Act.put, List.setIfInBounds_toArray, List.set_cons_zero, List.set_cons_succ, i64_w, i32_w]
            rfl
          refine take_ (i := 4) (N := some 62) (v := ?_) (a' := ?_) #[true, true, true, true, true, false, false] rfl rfl (by kernel_rfl) (fun _ _ _ h => h) (Or.inl ⟨by rfl, ?_⟩) hHeld ?_ ?_
          rotate_left
          · rintro w' ⟨s0, s1, s2⟩
            go_simp
            with_reducible rfl
          rotate_left
          · simp only [Act.put, List.setIfInBounds_toArray, List.set_cons_zero, List.set_cons_succ, i64_w, i32_w]
            rfl
          refine one_ (i := 5) (N := some 63) #[true, true, true, true, true, true, false] rfl rfl (by kernel_rfl) (by decide) (fun K hK => ?_)
          refine goes_ Try.func25 (by kernel_rfl) rfl #[.agg #[.int .i64 l, .int .i64 h], .bool false] (by rfl) rfl rfl (by (try simp only [List.map_toArray, List.map_cons, List.map_nil]); first | done | rfl) ?_
          with_reducible refine (path_Span_Cut.calls l h false _ _ _ hC.out).mono ?_
          rintro e w7 ⟨rfl, hb1⟩
          refine ⟨_, rfl, ?_⟩
          have bk7 := Aside0.mk (blk_below bk6.out hb1)
          have hb7 := Aside0.mk (below_step hb6.out hb1)
          have hx7 := pw_cell_below hb1 hHeld.2.2
          clear bk6 hb6 hb1
          refine hK.out _ _ ⟨(blk_cell bk7.out 0).trans rfl, (blk_cell bk7.out 1).trans rfl, hx7⟩ (fun hHeld => ?_)
          clear hK K
          refine norm_ (a' := ?_) ?_ ?_
          rotate_left
          · show Act.put _ (some 63) _ = _
            simp only [Act.put, List.setIfInBounds_toArray, List.set_cons_zero, List.set_cons_succ, i64_w, i32_w]
            rfl
          refine last_ (i := 6) (N := none) #[true, true, true, true, true, true, true] rfl rfl (by kernel_rfl) (by decide) (fun K hK => ?_)
          have e0 : w7.cell? ⟨g, 0, none⟩ = some (.int .i64 l) := (blk_cell bk7.out 0).trans rfl
          have e1 : w7.cell? ⟨g, 1, none⟩ = some (.int .i64 h) := (blk_cell bk7.out 1).trans rfl
          have f0 := blk_frozen bk7.out 0
          have f1 := blk_frozen bk7.out 1
          refine skip_ (w1 := ?_) (by rfl) rfl ?_ ?_
          rotate_left
          · go_simp
            rfl
          refine hK.out _ _ ?_
          clear hK K
          refine done_ (by kernel_rfl) ?_
          have bk9 := Aside0.mk (blk_put (cs' := #[.int .i64 l, .int .i64 h]) (blk_put (cs' := #[.int .i64 l, .int .i64 h]) bk7.out 0 (.int .i64 l) rfl) 1 (.int .i64 h) rfl)
          have hb9 := Aside0.mk ((hb7.out.setCell (p := ⟨g, 0, none⟩) GW.out (.int .i64 l)).setCell (p := ⟨g, 1, none⟩) GW.out (.int .i64 h))
          clear bk7 hb7 e0 e1 f0 f1 hHeld hx7
          generalize (w7.setCell _ _).setCell _ _ = w9 at bk9 hb9 ⊢
          obtain ⟨x', ex, hx9⟩ := (hr.out.below hb9.out) k hk
          obtain rfl : x = x' := by simpa using ex
          rw [hBk] at hx9
          clear ex
          go_wp2
          go_roundw
          case rel => exact ⟨k + 1, l, h, rfl, rfl, by go_num, by omega, hnew, bk9, hb9⟩
          case measure => simp [intOf]; omega
        · have hD := Aside0.mk (show path_Span_Done.f l h = some true by rw [done_is, decide_eq_true hd])
          have hM := Aside0.mk (show path_Span_Mid.f l h = some ((l + h) / 2) from by have := hlh.out; exact mid_is l h (by omega) (by omega) (by omega))
          have hC := Aside0.mk (show path_Span_Cut.f l h true = some (l, h) from by
            have := hlh.out
            unfold path_Span_Cut.f; rw [hD.out]; simp only [Option.bind_some]; rfl)
          have hnew := Aside0.mk (show 0 ≤ l ∧ l ≤ h ∧ h < 1000000 from by have := hlh.out; omega)
          have hrng := hlh.out
          obtain ⟨r1, r2, r3⟩ := hrng
          have d0 : decide (h ≤ l) = true := decide_eq_true hd
          have p1 : (0 : Int) ≤ (k : Int) := Int.natCast_nonneg _
          have p2 : (k : Int) < (len : Int) := by omega
          go_wp2_with (first | ((with_reducible refine gate_callee (f := 23) rfl ?_); refine goesL_ (some 35) rfl rfl Try.func23 (by kernel_rfl) rfl #[.agg #[.int .i64 l, .int .i64 h]] rfl (by (try simp only [List.map_toArray, List.map_cons, List.map_nil]); first | done | rfl) ?_; (with_reducible refine (path_Span_Done.calls l h true _ hD.out).mono ?_); rintro e w4 ⟨rfl, hb1⟩; refine ⟨_, rfl, ?_⟩; have bk4 := Aside0.mk (blk_below hblk.out hb1); have hb4 := Aside0.mk (below_step hbel.out hb1); clear hblk hbel hb1; have c40 : w4.cell? ⟨g, 0, none⟩ = some (.int .i64 l) := (blk_cell bk4.out 0).trans rfl; have c41 : w4.cell? ⟨g, 1, none⟩ = some (.int .i64 h) := (blk_cell bk4.out 1).trans rfl) | (go_at_call 24; (with_reducible refine (path_Span_Mid.calls l h ((l + h) / 2) _ hM.out).mono ?_); rintro e w5 ⟨rfl, hb1⟩; have bk5 := Aside0.mk (blk_below bk4.out hb1); have hb5 := Aside0.mk (below_step hb4.out hb1); clear bk4 hb4 c40 c41 hb1; have c50 : w5.cell? ⟨g, 0, none⟩ = some (.int .i64 l) := (blk_cell bk5.out 0).trans rfl; have c51 : w5.cell? ⟨g, 1, none⟩ = some (.int .i64 h) := (blk_cell bk5.out 1).trans rfl))
          have bk6 := Aside0.mk (blk_drew bk5.out)
          have hb6 := Aside0.mk (below_drew1 hb5.out)
          obtain ⟨x', ex, hx6⟩ := (hr.out.below hb6.out) k hk
          obtain rfl : x = x' := by simpa using ex
          rw [hBk] at hx6
          clear ex
          refine start_ (n := 7) (S := fun w' => w'.cell? ⟨g, 0, none⟩ = some (.int .i64 l) ∧ w'.cell? ⟨g, 1, none⟩ = some (.int .i64 h) ∧ w'.cell? (x.add k) = some (.bool true)) (ds := [6]) #[false, false, false, false, false, false, false] (by kernel_rfl) rfl rfl ⟨(blk_cell bk6.out 0).trans rfl, (blk_cell bk6.out 1).trans rfl, hx6⟩ (fun hHeld => ?_)
          clear c50 c51 bk5 hb5 hx6
          generalize w5.drew = w6 at bk6 hb6 hHeld ⊢
          refine pure_ (i := 1) (N := some 59) (v := ?_) (a' := ?_) #[false, true, false, false, false, false, false] rfl rfl (by kernel_rfl) (fun _ _ _ h => h) (Or.inl ⟨by rfl, ?_⟩) ?_ ?_
          rotate_left
          · intro w'
            go_simp
            with_reducible rfl
          rotate_left
          · simp only [Act.put, List.setIfInBounds_toArray, List.set_cons_zero, List.set_cons_succ, i64_w, i32_w]
            rfl
          refine pure_ (i := 2) (N := some 60) (v := ?_) (a' := ?_) #[false, true, true, false, false, false, false] rfl rfl (by kernel_rfl) (fun _ _ _ h => h) (Or.inl ⟨by rfl, ?_⟩) ?_ ?_
          rotate_left
          · intro w'
            go_simp
            with_reducible rfl
          rotate_left
          · simp only [Act.put, List.setIfInBounds_toArray, List.set_cons_zero, List.set_cons_succ, i64_w, i32_w]
            rfl
          refine pure_ (i := 3) (N := some 61) (v := ?_) (a' := ?_) #[false, true, true, true, false, false, false] rfl rfl (by kernel_rfl) (fun _ _ _ h => h) (Or.inl ⟨by rfl, ?_⟩) ?_ ?_
          rotate_left
          · intro w'
            go_simp
            with_reducible rfl
          rotate_left
          · simp only [Act.put, List.setIfInBounds_toArray, List.set_cons_zero, List.set_cons_succ, i64_w, i32_w]
            rfl
          refine take_ (i := 0) (N := some 58) (v := ?_) (a' := ?_) #[true, true, true, true, false, false, false] rfl rfl (by kernel_rfl) (fun _ _ _ h => h) (Or.inl ⟨by rfl, ?_⟩) hHeld ?_ ?_
          rotate_left
          · rintro w' ⟨s0, s1, s2⟩
            go_simp
            with_reducible rfl
          rotate_left
          · simp only [Act.put, List.setIfInBounds_toArray, List.set_cons_zero, List.set_cons_succ, i64_w, i32_w]
            rfl
          refine take_ (i := 4) (N := some 62) (v := ?_) (a' := ?_) #[true, true, true, true, true, false, false] rfl rfl (by kernel_rfl) (fun _ _ _ h => h) (Or.inl ⟨by rfl, ?_⟩) hHeld ?_ ?_
          rotate_left
          · rintro w' ⟨s0, s1, s2⟩
            go_simp
            with_reducible rfl
          rotate_left
          · simp only [Act.put, List.setIfInBounds_toArray, List.set_cons_zero, List.set_cons_succ, i64_w, i32_w]
            rfl
          refine one_ (i := 5) (N := some 63) #[true, true, true, true, true, true, false] rfl rfl (by kernel_rfl) (by decide) (fun K hK => ?_)
          refine goes_ Try.func25 (by kernel_rfl) rfl #[.agg #[.int .i64 l, .int .i64 h], .bool true] (by rfl) rfl rfl (by (try simp only [List.map_toArray, List.map_cons, List.map_nil]); first | done | rfl) ?_
          with_reducible refine (path_Span_Cut.calls l h true _ _ _ hC.out).mono ?_
          rintro e w7 ⟨rfl, hb1⟩
          refine ⟨_, rfl, ?_⟩
          have bk7 := Aside0.mk (blk_below bk6.out hb1)
          have hb7 := Aside0.mk (below_step hb6.out hb1)
          have hx7 := pw_cell_below hb1 hHeld.2.2
          clear bk6 hb6 hb1
          refine hK.out _ _ ⟨(blk_cell bk7.out 0).trans rfl, (blk_cell bk7.out 1).trans rfl, hx7⟩ (fun hHeld => ?_)
          clear hK K
          refine norm_ (a' := ?_) ?_ ?_
          rotate_left
          · show Act.put _ (some 63) _ = _
            simp only [Act.put, List.setIfInBounds_toArray, List.set_cons_zero, List.set_cons_succ, i64_w, i32_w]
            rfl
          refine last_ (i := 6) (N := none) #[true, true, true, true, true, true, true] rfl rfl (by kernel_rfl) (by decide) (fun K hK => ?_)
          have e0 : w7.cell? ⟨g, 0, none⟩ = some (.int .i64 l) := (blk_cell bk7.out 0).trans rfl
          have e1 : w7.cell? ⟨g, 1, none⟩ = some (.int .i64 h) := (blk_cell bk7.out 1).trans rfl
          have f0 := blk_frozen bk7.out 0
          have f1 := blk_frozen bk7.out 1
          refine skip_ (w1 := ?_) (by rfl) rfl ?_ ?_
          rotate_left
          · go_simp
            rfl
          refine hK.out _ _ ?_
          clear hK K
          refine done_ (by kernel_rfl) ?_
          have bk9 := Aside0.mk (blk_put (cs' := #[.int .i64 l, .int .i64 h]) (blk_put (cs' := #[.int .i64 l, .int .i64 h]) bk7.out 0 (.int .i64 l) rfl) 1 (.int .i64 h) rfl)
          have hb9 := Aside0.mk ((hb7.out.setCell (p := ⟨g, 0, none⟩) GW.out (.int .i64 l)).setCell (p := ⟨g, 1, none⟩) GW.out (.int .i64 h))
          clear bk7 hb7 e0 e1 f0 f1 hHeld hx7
          generalize (w7.setCell _ _).setCell _ _ = w9 at bk9 hb9 ⊢
          obtain ⟨x', ex, hx9⟩ := (hr.out.below hb9.out) k hk
          obtain rfl : x = x' := by simpa using ex
          rw [hBk] at hx9
          clear ex
          go_wp2
          go_roundw
          case rel => exact ⟨k + 1, l, h, rfl, rfl, by go_num, by omega, hnew, bk9, hb9⟩
          case measure => simp [intOf]; omega
      · cases hBk : B k
        · have hD := Aside0.mk (show path_Span_Done.f l h = some false by rw [done_is, decide_eq_false hd])
          have hM := Aside0.mk (show path_Span_Mid.f l h = some ((l + h) / 2) from by have := hlh.out; exact mid_is l h (by omega) (by omega) (by omega))
          have hC := Aside0.mk (show path_Span_Cut.f l h false = some (((l + h) / 2 + 1), h) from by
            have := hlh.out
            rw [cut_is l h false (by omega) (by omega) (by omega)]; rfl)
          have hnew := Aside0.mk (show 0 ≤ ((l + h) / 2 + 1) ∧ ((l + h) / 2 + 1) ≤ h ∧ h < 1000000 from by have := hlh.out; omega)
          have hrng := hlh.out
          obtain ⟨r1, r2, r3⟩ := hrng
          have d0 : decide (h ≤ l) = false := decide_eq_false hd
          have p1 : (0 : Int) ≤ (k : Int) := Int.natCast_nonneg _
          have p2 : (k : Int) < (len : Int) := by omega
          go_wp2_with (first | ((with_reducible refine gate_callee (f := 23) rfl ?_); refine goesL_ (some 35) rfl rfl Try.func23 (by kernel_rfl) rfl #[.agg #[.int .i64 l, .int .i64 h]] rfl (by (try simp only [List.map_toArray, List.map_cons, List.map_nil]); first | done | rfl) ?_; (with_reducible refine (path_Span_Done.calls l h false _ hD.out).mono ?_); rintro e w4 ⟨rfl, hb1⟩; refine ⟨_, rfl, ?_⟩; have bk4 := Aside0.mk (blk_below hblk.out hb1); have hb4 := Aside0.mk (below_step hbel.out hb1); clear hblk hbel hb1; have c40 : w4.cell? ⟨g, 0, none⟩ = some (.int .i64 l) := (blk_cell bk4.out 0).trans rfl; have c41 : w4.cell? ⟨g, 1, none⟩ = some (.int .i64 h) := (blk_cell bk4.out 1).trans rfl) | (go_at_call 24; (with_reducible refine (path_Span_Mid.calls l h ((l + h) / 2) _ hM.out).mono ?_); rintro e w5 ⟨rfl, hb1⟩; have bk5 := Aside0.mk (blk_below bk4.out hb1); have hb5 := Aside0.mk (below_step hb4.out hb1); clear bk4 hb4 c40 c41 hb1; have c50 : w5.cell? ⟨g, 0, none⟩ = some (.int .i64 l) := (blk_cell bk5.out 0).trans rfl; have c51 : w5.cell? ⟨g, 1, none⟩ = some (.int .i64 h) := (blk_cell bk5.out 1).trans rfl))
          have bk6 := Aside0.mk (blk_drew bk5.out)
          have hb6 := Aside0.mk (below_drew1 hb5.out)
          obtain ⟨x', ex, hx6⟩ := (hr.out.below hb6.out) k hk
          obtain rfl : x = x' := by simpa using ex
          rw [hBk] at hx6
          clear ex
          refine start_ (n := 7) (S := fun w' => w'.cell? ⟨g, 0, none⟩ = some (.int .i64 l) ∧ w'.cell? ⟨g, 1, none⟩ = some (.int .i64 h) ∧ w'.cell? (x.add k) = some (.bool false)) (ds := [6]) #[false, false, false, false, false, false, false] (by kernel_rfl) rfl rfl ⟨(blk_cell bk6.out 0).trans rfl, (blk_cell bk6.out 1).trans rfl, hx6⟩ (fun hHeld => ?_)
          clear c50 c51 bk5 hb5 hx6
          generalize w5.drew = w6 at bk6 hb6 hHeld ⊢
          refine pure_ (i := 1) (N := some 59) (v := ?_) (a' := ?_) #[false, true, false, false, false, false, false] rfl rfl (by kernel_rfl) (fun _ _ _ h => h) (Or.inl ⟨by rfl, ?_⟩) ?_ ?_
          rotate_left
          · intro w'
            go_simp
            with_reducible rfl
          rotate_left
          · simp only [Act.put, List.setIfInBounds_toArray, List.set_cons_zero, List.set_cons_succ, i64_w, i32_w]
            rfl
          refine pure_ (i := 2) (N := some 60) (v := ?_) (a' := ?_) #[false, true, true, false, false, false, false] rfl rfl (by kernel_rfl) (fun _ _ _ h => h) (Or.inl ⟨by rfl, ?_⟩) ?_ ?_
          rotate_left
          · intro w'
            go_simp
            with_reducible rfl
          rotate_left
          · simp only [Act.put, List.setIfInBounds_toArray, List.set_cons_zero, List.set_cons_succ, i64_w, i32_w]
            rfl
          refine pure_ (i := 3) (N := some 61) (v := ?_) (a' := ?_) #[false, true, true, true, false, false, false] rfl rfl (by kernel_rfl) (fun _ _ _ h => h) (Or.inl ⟨by rfl, ?_⟩) ?_ ?_
          rotate_left
          · intro w'
            go_simp
            with_reducible rfl
          rotate_left
          · simp only [Act.put, List.setIfInBounds_toArray, List.set_cons_zero, List.set_cons_succ, i64_w, i32_w]
            rfl
          refine take_ (i := 0) (N := some 58) (v := ?_) (a' := ?_) #[true, true, true, true, false, false, false] rfl rfl (by kernel_rfl) (fun _ _ _ h => h) (Or.inl ⟨by rfl, ?_⟩) hHeld ?_ ?_
          rotate_left
          · rintro w' ⟨s0, s1, s2⟩
            go_simp
            with_reducible rfl
          rotate_left
          · simp only [Act.put, List.setIfInBounds_toArray, List.set_cons_zero, List.set_cons_succ, i64_w, i32_w]
            rfl
          refine take_ (i := 4) (N := some 62) (v := ?_) (a' := ?_) #[true, true, true, true, true, false, false] rfl rfl (by kernel_rfl) (fun _ _ _ h => h) (Or.inl ⟨by rfl, ?_⟩) hHeld ?_ ?_
          rotate_left
          · rintro w' ⟨s0, s1, s2⟩
            go_simp
            with_reducible rfl
          rotate_left
          · simp only [Act.put, List.setIfInBounds_toArray, List.set_cons_zero, List.set_cons_succ, i64_w, i32_w]
            rfl
          refine one_ (i := 5) (N := some 63) #[true, true, true, true, true, true, false] rfl rfl (by kernel_rfl) (by decide) (fun K hK => ?_)
          refine goes_ Try.func25 (by kernel_rfl) rfl #[.agg #[.int .i64 l, .int .i64 h], .bool false] (by rfl) rfl rfl (by (try simp only [List.map_toArray, List.map_cons, List.map_nil]); first | done | rfl) ?_
          with_reducible refine (path_Span_Cut.calls l h false _ _ _ hC.out).mono ?_
          rintro e w7 ⟨rfl, hb1⟩
          refine ⟨_, rfl, ?_⟩
          have bk7 := Aside0.mk (blk_below bk6.out hb1)
          have hb7 := Aside0.mk (below_step hb6.out hb1)
          have hx7 := pw_cell_below hb1 hHeld.2.2
          clear bk6 hb6 hb1
          refine hK.out _ _ ⟨(blk_cell bk7.out 0).trans rfl, (blk_cell bk7.out 1).trans rfl, hx7⟩ (fun hHeld => ?_)
          clear hK K
          refine norm_ (a' := ?_) ?_ ?_
          rotate_left
          · show Act.put _ (some 63) _ = _
            simp only [Act.put, List.setIfInBounds_toArray, List.set_cons_zero, List.set_cons_succ, i64_w, i32_w]
            rfl
          refine last_ (i := 6) (N := none) #[true, true, true, true, true, true, true] rfl rfl (by kernel_rfl) (by decide) (fun K hK => ?_)
          have e0 : w7.cell? ⟨g, 0, none⟩ = some (.int .i64 l) := (blk_cell bk7.out 0).trans rfl
          have e1 : w7.cell? ⟨g, 1, none⟩ = some (.int .i64 h) := (blk_cell bk7.out 1).trans rfl
          have f0 := blk_frozen bk7.out 0
          have f1 := blk_frozen bk7.out 1
          refine skip_ (w1 := ?_) (by rfl) rfl ?_ ?_
          rotate_left
          · go_simp
            rfl
          refine hK.out _ _ ?_
          clear hK K
          refine done_ (by kernel_rfl) ?_
          have bk9 := Aside0.mk (blk_put (cs' := #[.int .i64 ((l + h) / 2 + 1), .int .i64 h]) (blk_put (cs' := #[.int .i64 ((l + h) / 2 + 1), .int .i64 h]) bk7.out 0 (.int .i64 ((l + h) / 2 + 1)) rfl) 1 (.int .i64 h) rfl)
          have hb9 := Aside0.mk ((hb7.out.setCell (p := ⟨g, 0, none⟩) GW.out (.int .i64 ((l + h) / 2 + 1))).setCell (p := ⟨g, 1, none⟩) GW.out (.int .i64 h))
          clear bk7 hb7 e0 e1 f0 f1 hHeld hx7
          generalize (w7.setCell _ _).setCell _ _ = w9 at bk9 hb9 ⊢
          obtain ⟨x', ex, hx9⟩ := (hr.out.below hb9.out) k hk
          obtain rfl : x = x' := by simpa using ex
          rw [hBk] at hx9
          clear ex
          go_wp2
          go_roundw
          case rel => exact ⟨k + 1, ((l + h) / 2 + 1), h, rfl, rfl, by go_num, by omega, hnew, bk9, hb9⟩
          case measure => simp [intOf]; omega
        · have hD := Aside0.mk (show path_Span_Done.f l h = some false by rw [done_is, decide_eq_false hd])
          have hM := Aside0.mk (show path_Span_Mid.f l h = some ((l + h) / 2) from by have := hlh.out; exact mid_is l h (by omega) (by omega) (by omega))
          have hC := Aside0.mk (show path_Span_Cut.f l h true = some (l, ((l + h) / 2)) from by
            have := hlh.out
            rw [cut_is l h true (by omega) (by omega) (by omega)]; rfl)
          have hnew := Aside0.mk (show 0 ≤ l ∧ l ≤ ((l + h) / 2) ∧ ((l + h) / 2) < 1000000 from by have := hlh.out; omega)
          have hrng := hlh.out
          obtain ⟨r1, r2, r3⟩ := hrng
          have d0 : decide (h ≤ l) = false := decide_eq_false hd
          have p1 : (0 : Int) ≤ (k : Int) := Int.natCast_nonneg _
          have p2 : (k : Int) < (len : Int) := by omega
          go_wp2_with (first | ((with_reducible refine gate_callee (f := 23) rfl ?_); refine goesL_ (some 35) rfl rfl Try.func23 (by kernel_rfl) rfl #[.agg #[.int .i64 l, .int .i64 h]] rfl (by (try simp only [List.map_toArray, List.map_cons, List.map_nil]); first | done | rfl) ?_; (with_reducible refine (path_Span_Done.calls l h false _ hD.out).mono ?_); rintro e w4 ⟨rfl, hb1⟩; refine ⟨_, rfl, ?_⟩; have bk4 := Aside0.mk (blk_below hblk.out hb1); have hb4 := Aside0.mk (below_step hbel.out hb1); clear hblk hbel hb1; have c40 : w4.cell? ⟨g, 0, none⟩ = some (.int .i64 l) := (blk_cell bk4.out 0).trans rfl; have c41 : w4.cell? ⟨g, 1, none⟩ = some (.int .i64 h) := (blk_cell bk4.out 1).trans rfl) | (go_at_call 24; (with_reducible refine (path_Span_Mid.calls l h ((l + h) / 2) _ hM.out).mono ?_); rintro e w5 ⟨rfl, hb1⟩; have bk5 := Aside0.mk (blk_below bk4.out hb1); have hb5 := Aside0.mk (below_step hb4.out hb1); clear bk4 hb4 c40 c41 hb1; have c50 : w5.cell? ⟨g, 0, none⟩ = some (.int .i64 l) := (blk_cell bk5.out 0).trans rfl; have c51 : w5.cell? ⟨g, 1, none⟩ = some (.int .i64 h) := (blk_cell bk5.out 1).trans rfl))
          have bk6 := Aside0.mk (blk_drew bk5.out)
          have hb6 := Aside0.mk (below_drew1 hb5.out)
          obtain ⟨x', ex, hx6⟩ := (hr.out.below hb6.out) k hk
          obtain rfl : x = x' := by simpa using ex
          rw [hBk] at hx6
          clear ex
          refine start_ (n := 7) (S := fun w' => w'.cell? ⟨g, 0, none⟩ = some (.int .i64 l) ∧ w'.cell? ⟨g, 1, none⟩ = some (.int .i64 h) ∧ w'.cell? (x.add k) = some (.bool true)) (ds := [6]) #[false, false, false, false, false, false, false] (by kernel_rfl) rfl rfl ⟨(blk_cell bk6.out 0).trans rfl, (blk_cell bk6.out 1).trans rfl, hx6⟩ (fun hHeld => ?_)
          clear c50 c51 bk5 hb5 hx6
          generalize w5.drew = w6 at bk6 hb6 hHeld ⊢
          refine pure_ (i := 1) (N := some 59) (v := ?_) (a' := ?_) #[false, true, false, false, false, false, false] rfl rfl (by kernel_rfl) (fun _ _ _ h => h) (Or.inl ⟨by rfl, ?_⟩) ?_ ?_
          rotate_left
          · intro w'
            go_simp
            with_reducible rfl
          rotate_left
          · simp only [Act.put, List.setIfInBounds_toArray, List.set_cons_zero, List.set_cons_succ, i64_w, i32_w]
            rfl
          refine pure_ (i := 2) (N := some 60) (v := ?_) (a' := ?_) #[false, true, true, false, false, false, false] rfl rfl (by kernel_rfl) (fun _ _ _ h => h) (Or.inl ⟨by rfl, ?_⟩) ?_ ?_
          rotate_left
          · intro w'
            go_simp
            with_reducible rfl
          rotate_left
          · simp only [Act.put, List.setIfInBounds_toArray, List.set_cons_zero, List.set_cons_succ, i64_w, i32_w]
            rfl
          refine pure_ (i := 3) (N := some 61) (v := ?_) (a' := ?_) #[false, true, true, true, false, false, false] rfl rfl (by kernel_rfl) (fun _ _ _ h => h) (Or.inl ⟨by rfl, ?_⟩) ?_ ?_
          rotate_left
          · intro w'
            go_simp
            with_reducible rfl
          rotate_left
          · simp only [Act.put, List.setIfInBounds_toArray, List.set_cons_zero, List.set_cons_succ, i64_w, i32_w]
            rfl
          refine take_ (i := 0) (N := some 58) (v := ?_) (a' := ?_) #[true, true, true, true, false, false, false] rfl rfl (by kernel_rfl) (fun _ _ _ h => h) (Or.inl ⟨by rfl, ?_⟩) hHeld ?_ ?_
          rotate_left
          · rintro w' ⟨s0, s1, s2⟩
            go_simp
            with_reducible rfl
          rotate_left
          · simp only [Act.put, List.setIfInBounds_toArray, List.set_cons_zero, List.set_cons_succ, i64_w, i32_w]
            rfl
          refine take_ (i := 4) (N := some 62) (v := ?_) (a' := ?_) #[true, true, true, true, true, false, false] rfl rfl (by kernel_rfl) (fun _ _ _ h => h) (Or.inl ⟨by rfl, ?_⟩) hHeld ?_ ?_
          rotate_left
          · rintro w' ⟨s0, s1, s2⟩
            go_simp
            with_reducible rfl
          rotate_left
          · simp only [Act.put, List.setIfInBounds_toArray, List.set_cons_zero, List.set_cons_succ, i64_w, i32_w]
            rfl
          refine one_ (i := 5) (N := some 63) #[true, true, true, true, true, true, false] rfl rfl (by kernel_rfl) (by decide) (fun K hK => ?_)
          refine goes_ Try.func25 (by kernel_rfl) rfl #[.agg #[.int .i64 l, .int .i64 h], .bool true] (by rfl) rfl rfl (by (try simp only [List.map_toArray, List.map_cons, List.map_nil]); first | done | rfl) ?_
          with_reducible refine (path_Span_Cut.calls l h true _ _ _ hC.out).mono ?_
          rintro e w7 ⟨rfl, hb1⟩
          refine ⟨_, rfl, ?_⟩
          have bk7 := Aside0.mk (blk_below bk6.out hb1)
          have hb7 := Aside0.mk (below_step hb6.out hb1)
          have hx7 := pw_cell_below hb1 hHeld.2.2
          clear bk6 hb6 hb1
          refine hK.out _ _ ⟨(blk_cell bk7.out 0).trans rfl, (blk_cell bk7.out 1).trans rfl, hx7⟩ (fun hHeld => ?_)
          clear hK K
          refine norm_ (a' := ?_) ?_ ?_
          rotate_left
          · show Act.put _ (some 63) _ = _
            simp only [Act.put, List.setIfInBounds_toArray, List.set_cons_zero, List.set_cons_succ, i64_w, i32_w]
            rfl
          refine last_ (i := 6) (N := none) #[true, true, true, true, true, true, true] rfl rfl (by kernel_rfl) (by decide) (fun K hK => ?_)
          have e0 : w7.cell? ⟨g, 0, none⟩ = some (.int .i64 l) := (blk_cell bk7.out 0).trans rfl
          have e1 : w7.cell? ⟨g, 1, none⟩ = some (.int .i64 h) := (blk_cell bk7.out 1).trans rfl
          have f0 := blk_frozen bk7.out 0
          have f1 := blk_frozen bk7.out 1
          refine skip_ (w1 := ?_) (by rfl) rfl ?_ ?_
          rotate_left
          · go_simp
            rfl
          refine hK.out _ _ ?_
          clear hK K
          refine done_ (by kernel_rfl) ?_
          have bk9 := Aside0.mk (blk_put (cs' := #[.int .i64 l, .int .i64 ((l + h) / 2)]) (blk_put (cs' := #[.int .i64 l, .int .i64 h]) bk7.out 0 (.int .i64 l) rfl) 1 (.int .i64 ((l + h) / 2)) rfl)
          have hb9 := Aside0.mk ((hb7.out.setCell (p := ⟨g, 0, none⟩) GW.out (.int .i64 l)).setCell (p := ⟨g, 1, none⟩) GW.out (.int .i64 ((l + h) / 2)))
          clear bk7 hb7 e0 e1 f0 f1 hHeld hx7
          generalize (w7.setCell _ _).setCell _ _ = w9 at bk9 hb9 ⊢
          obtain ⟨x', ex, hx9⟩ := (hr.out.below hb9.out) k hk
          obtain rfl : x = x' := by simpa using ex
          rw [hBk] at hx9
          clear ex
          go_wp2
          go_roundw
          case rel => exact ⟨k + 1, l, ((l + h) / 2), rfl, rfl, by go_num, by omega, hnew, bk9, hb9⟩
          case measure => simp [intOf]; omega
    · obtain rfl : k = len := by omega
      go_wp2_with (first | (go_at_call 21; (with_reducible refine (lives_calls _).mono ?_); rintro e w' ⟨rfl, hb1⟩; have hb4 := Aside0.mk (below_step hbel.out hb1); clear hb1))
      go_ret
      exact ⟨rfl, hb4.out⟩

theorem walk (n : Int) (A : Option Addr) (len cap : Nat) (B : Nat → Bool) (w : World) (hr : Bools w A len B) :
    Calls Try.prog 7 #[.int .i64 n, .slice A len cap] w fun e w' => e = .returned (.bool true) ∧ Below w.heap.size w w' := by
  by_cases h : len > 200 ∨ n > 1000000
  · exact far_calls n A len cap w h
  · by_cases h0 : n > 0
    · exact near_pos n A len cap B w ⟨hr⟩ (by omega) (by omega) h0 h0
    · exact near_neg n A len cap B w ⟨hr⟩ (by omega) (by omega) h0 (by omega)

end Go.Proofs.Ytegpplokfjojbaa.PathCutsWalk
