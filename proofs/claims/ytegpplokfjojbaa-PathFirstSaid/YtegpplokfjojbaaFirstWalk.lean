/- The walk of path.First, for whatever function it is handed that tells a bool of each number and keeps what First holds: First tells what halving a span from 0 on tells, and has asked as often. -/
import Derived.Test.YtegpplokfjojbaaPPathCutsx1
namespace Go.Proofs.Ytegpplokfjojbaa.FirstWalk
open Go.RowKit Go.Proofs.Ytegpplokfjojbaa.PPathCuts Go.Proofs.YtegpplokfjojbaaW.PrintWords Go.Proofs.YtegpplokfjojbaaW.PrintLast Go.Proofs.YtegpplokfjojbaaW.PrintMore
attribute [local go_sem] max2_int min2_int max_two min_two max_three min_three max_four min_four
set_option linter.unusedVariables false
set_option linter.unusedSimpArgs false

/-- Halving: what is found, and how often it was asked. -/
def halve (p : Int → Bool) : Nat → Int → Int → Int × Nat
  | 0, lo, _ => (lo, 0)
  | k + 1, lo, hi => if lo ≥ hi then (lo, 0) else if p ((lo + hi) / 2) = true then ((halve p k lo ((lo + hi) / 2)).1, (halve p k lo ((lo + hi) / 2)).2 + 1) else ((halve p k ((lo + hi) / 2 + 1) hi).1, (halve p k ((lo + hi) / 2 + 1) hi).2 + 1)

theorem halve_step (p : Int → Bool) (k : Nat) (lo hi : Int) : halve p (k + 1) lo hi = if lo ≥ hi then (lo, 0) else if p ((lo + hi) / 2) = true then ((halve p k lo ((lo + hi) / 2)).1, (halve p k lo ((lo + hi) / 2)).2 + 1) else ((halve p k ((lo + hi) / 2 + 1) hi).1, (halve p k ((lo + hi) / 2 + 1) hi).2 + 1) := rfl

theorem mid_is (lo hi : Int) (h0 : 0 ≤ lo) (h1 : lo ≤ hi) (h2 : hi ≤ 1073741824) : path_Span_Mid.f lo hi = some ((lo + hi) / 2) := by
  have c : ∀ x : Int, 0 ≤ x → x ≤ 1073741824 → path_clip.f x = some x := by
    intro x a b
    unfold path_clip.f mx mn
    congr 1
    split <;> split <;> omega
  unfold path_Span_Mid.f
  rw [c lo h0 (by omega), c hi (by omega) h2]
  simp only [Option.bind_some]
  congr 1
  rw [show wrap64 (lo + hi) = lo + hi by unfold wrap64; omega, Int.tdiv_eq_ediv_of_nonneg (by omega)]
  unfold wrap64
  omega

theorem done_is (lo hi : Int) : path_Span_Done.f lo hi = some (decide (lo ≥ hi)) := rfl

theorem cut_is (lo hi : Int) (b : Bool) (h0 : 0 ≤ lo) (h1 : lo < hi) (h2 : hi ≤ 1073741824) :
    path_Span_Cut.f lo hi b = some (if b = true then (lo, (lo + hi) / 2) else ((lo + hi) / 2 + 1, hi)) := by
  unfold path_Span_Cut.f
  rw [done_is, mid_is lo hi h0 (by omega) h2]
  simp only [Option.bind_some]
  rw [if_neg (by rw [decide_eq_true_eq]; omega)]
  cases b
  · simp
    unfold wrap64
    omega
  · simp

theorem new_is (n : Int) (h : 1 ≤ n) (h1 : n ≤ 1073741824) : path_New.f n = some (0, n - 1) := by
  unfold path_New.f mx
  rw [if_neg (by omega)]
  congr 2
  unfold wrap64
  omega

theorem equal_func_nil (d : Nat) (f : Fn) (c : Array Value) (W : World) : (Op.equalIn (d + 1) 47 (.func f #[] c) .nilFunc).run Try.prog W = .ok false W := by
  simp [Op.equalIn, run_underlying Try.underlying47]
theorem equal_nil_nil (d : Nat) (W : World) : (Op.equalIn (d + 1) 47 .nilFunc .nilFunc).run Try.prog W = .ok true W := by
  simp [Op.equalIn, run_underlying Try.underlying47]
/-- A function is not nil; nil is. -/
@[local go_sem] theorem func_nil (f : Fn) (c : Array Value) (W : World) : (binOp .eql 47 (.func f #[] c) .nilFunc).run Try.prog W = .ok (.bool false) W := by
  simp only [binOp]
  simp [Op.equal, Op.maxDepth, equal_func_nil 9999]
@[local go_sem] theorem nil_nil (W : World) : (binOp .eql 47 .nilFunc .nilFunc).run Try.prog W = .ok (.bool true) W := by
  simp only [binOp]
  simp [Op.equal, Op.maxDepth, equal_nil_nil 9999]

/-- What a function does that First may be handed: it tells p, and goes on to the next state; what lies from B on stays. -/
def Tells (fid : Nat) (caps : Array Value) (B : Nat) (n : Int) (p : Int → Bool) (S : Nat → World → Prop) : Prop :=
  ∀ s i W, S s W → 0 ≤ i → i < n → B ≤ W.heap.size → Calls Try.prog fid (#[.int .i64 i] ++ caps) W fun e W' => e = .returned (.bool (p i)) ∧ S (s + 1) W' ∧ W.heap.size ≤ W'.heap.size ∧ ∀ g, B ≤ g → g < W.heap.size → W'.heap[g]? = W.heap[g]?

/-- .. and that it can be called. -/
def Enters (fid : Nat) (caps : Array Value) : Prop :=
  ∀ (i : Int) (W : World), (callFunc fid (#[.int .i64 i] ++ caps)).run Try.prog W = .ok (.enter fid (#[.int .i64 i] ++ caps)) W

/-- What is known keeps, whatever is done from B on. -/
def Keeps (B : Nat) (S : Nat → World → Prop) : Prop := ∀ s W W', S s W → Below B W W' → S s W'

set_option maxHeartbeats 1000000 in
set_option maxRecDepth 100000 in
theorem first_calls (fid : Nat) (caps : Array Value) (n : Int) (p : Int → Bool) (S : Nat → World → Prop) (s : Nat) (w : World)
    (hE : Aside0 (Enters fid caps)) (hT : Aside0 (Tells fid caps w.heap.size n p S)) (hKp : Aside0 (Keeps w.heap.size S)) (hS : Aside0 (S s w)) (h1 : 1 ≤ n) (h2 : n ≤ 1000000) :
    Calls Try.prog 26 #[.int .i64 n, .func (.func fid) #[] caps] w fun e w' => e = .returned (.int .i64 (halve p 31 0 (n - 1)).1) ∧ S (s + (halve p 31 0 (n - 1)).2) w' := by
  have hu40 := Try.underlying40
  have HB := Aside0.mk (Below.refl w.heap.size w)
  have hn := Aside0.mk (new_is n h1 (by omega))
  have g1 : decide (n < 1) = false := by rw [decide_eq_false_iff_not]; omega
  have g2 : (if 1073741824 < n then 1073741824 else n) = n := if_neg (by omega)
  go_enter Try.func26, Try.ntmps26
  go_wp2_with (first | ((with_reducible refine gate_callee (f := 22) rfl ?_); refine goesL_ (some 14) rfl rfl Try.func22 (by kernel_rfl) rfl #[.int .i64 n] rfl (by (try simp only [List.map_toArray, List.map_cons, List.map_nil]); first | done | rfl) ?_; (with_reducible refine (path_New.calls n 0 (n - 1) _ hn.out).mono ?_); rintro e w1 ⟨rfl, hb1⟩; refine ⟨_, rfl, ?_⟩; have n0_ := Aside0.mk (below_step HB.out hb1); clear HB; have HB := n0_; clear n0_ hb1) | ((with_reducible refine gate_dst (N := 5) rfl ?_); refine box_event ?hg (N := 5) ?hd (cs := #[.int .i64 0, .int .i64 0]) (t := 40) ?hr ?_; (case hd => rfl); (case hg => rfl); (case hr => first | (go_simp; done) | (go_simp; rfl)); intro g hg w2 hbox hb; have n0_ := Aside0.mk (below_step HB.out hb); have BK := Aside0.mk hbox; have GW := Aside0.mk (show w.heap.size ≤ g by rw [hg]; exact HB.out.size); clear HB; have HB := n0_; clear n0_ hb hbox hg; have hcz0 : w2.cell? ⟨g, 0, none⟩ = some (.int .i64 0) := (blk_cell BK.out 0).trans rfl; have hcz1 : w2.cell? ⟨g, 1, none⟩ = some (.int .i64 0) := (blk_cell BK.out 1).trans rfl; have hfz0 := blk_frozen BK.out 0; have hfz1 := blk_frozen BK.out 1))
  have n0_ := Aside0.mk (blk_put (cs := #[.int .i64 0, .int .i64 0]) (cs' := #[.int .i64 0, .int .i64 0]) BK.out 0 (.int .i64 0) rfl)
  have n1_ := Aside0.mk (blk_put (cs' := #[.int .i64 0, .int .i64 (n - 1)]) n0_.out 1 (.int .i64 (n - 1)) rfl)
  have n2_ := Aside0.mk ((HB.out.setCell (p := ⟨g, 0, none⟩) GW.out (.int .i64 0)).setCell (p := ⟨g, 1, none⟩) GW.out (.int .i64 (n - 1)))
  have n3_ := Aside0.mk (hKp.out _ _ _ hS.out n2_.out)
  have R0 := Aside0.mk (show (halve p 31 0 (n - 1)).1 = (halve p 31 0 (n - 1)).1 ∧ (halve p 31 0 (n - 1)).2 = 0 + (halve p 31 0 (n - 1)).2 by omega)
  clear HB BK n0_ hcz0 hcz1 hfz0 hfz1 hS
  go_loopw [15] (fun i wr => ∃ (k : Nat) (lo hi : Int) (q : Nat), i = .int .i64 k ∧ k ≤ 31 ∧ Aside0 (0 ≤ lo ∧ lo ≤ hi ∧ hi < n) ∧ Aside0 (wr.heap[g]? = some (.cells #[.int .i64 lo, .int .i64 hi] 40 (0, 0))) ∧ Aside0 (S (s + q) wr) ∧ Aside0 (w.heap.size ≤ wr.heap.size) ∧ Aside0 ((halve p (31 - k) lo hi).1 = (halve p 31 0 (n - 1)).1 ∧ (halve p 31 0 (n - 1)).2 = q + (halve p (31 - k) lo hi).2)) (fun i _ => 31 - (intOf i).toNat)
  case atStart => exact ⟨0, 0, n - 1, 0, rfl, by omega, ⟨by omega⟩, n1_, n3_, ⟨n2_.out.size⟩, R0⟩
  case round =>
    clear n1_ n2_ n3_ R0 g1 g2 hn
    obtain ⟨k, lo, hi, q, rfl, hk31, hlh, hblk, hs, hsz, hres⟩ := hrel
    have c0 : wr.cell? ⟨g, 0, none⟩ = some (.int .i64 lo) := (blk_cell hblk.out 0).trans rfl
    have c1 : wr.cell? ⟨g, 1, none⟩ = some (.int .i64 hi) := (blk_cell hblk.out 1).trans rfl
    by_cases hk : k < 31
    · by_cases hd : lo ≥ hi
      · have hD := Aside0.mk (show path_Span_Done.f lo hi = some true by rw [done_is, decide_eq_true hd])
        go_wp2_with (first | ((with_reducible refine gate_callee (f := 23) rfl ?_); refine goesL_ (some 18) rfl rfl Try.func23 (by kernel_rfl) rfl #[.agg #[.int .i64 lo, .int .i64 hi]] rfl (by (try simp only [List.map_toArray, List.map_cons, List.map_nil]); first | done | rfl) ?_; (with_reducible refine (path_Span_Done.calls lo hi true _ hD.out).mono ?_); rintro e w4 ⟨rfl, hb1⟩; refine ⟨_, rfl, ?_⟩; have bk4 := Aside0.mk (blk_below hblk.out hb1); have s4 := Aside0.mk (hKp.out _ _ _ hs.out (hb1.mono hsz.out)); clear hb1; have d0 : w4.cell? ⟨g, 0, none⟩ = some (.int .i64 lo) := (blk_cell bk4.out 0).trans rfl))
        go_ret
        refine ⟨?_, ?_⟩
        · have e1 : (halve p (31 - k) lo hi).1 = lo := by
            rw [show 31 - k = (30 - k) + 1 by omega, halve_step p (30 - k) lo hi, if_pos hd]
          rw [← hres.out.1, e1]
          rfl
        · have e1 : (halve p (31 - k) lo hi).2 = 0 := by
            rw [show 31 - k = (30 - k) + 1 by omega, halve_step p (30 - k) lo hi, if_pos hd]
          have e2 := hres.out.2
          rw [e1, Nat.add_zero] at e2
          rw [e2]
          exact s4.out
      · have hD := Aside0.mk (show path_Span_Done.f lo hi = some false by rw [done_is, decide_eq_false hd])
        have hl := hlh.out
        have hM := Aside0.mk (mid_is lo hi hl.1 hl.2.1 (by omega))
        have hC := Aside0.mk (cut_is lo hi (p ((lo + hi) / 2)) hl.1 (by omega) (by omega))
        clear hl
        go_wp2_with (first | ((with_reducible refine gate_callee (f := 23) rfl ?_); refine goesL_ (some 18) rfl rfl Try.func23 (by kernel_rfl) rfl #[.agg #[.int .i64 lo, .int .i64 hi]] rfl (by (try simp only [List.map_toArray, List.map_cons, List.map_nil]); first | done | rfl) ?_; (with_reducible refine (path_Span_Done.calls lo hi false _ hD.out).mono ?_); rintro e w4 ⟨rfl, hb1⟩; refine ⟨_, rfl, ?_⟩; have bk4 := Aside0.mk (blk_below hblk.out hb1); have s4 := Aside0.mk (hKp.out _ _ _ hs.out (hb1.mono hsz.out)); have z4 := Aside0.mk (Nat.le_trans hsz.out hb1.size); clear hb1; have d0 : w4.cell? ⟨g, 0, none⟩ = some (.int .i64 lo) := (blk_cell bk4.out 0).trans rfl; have d1 : w4.cell? ⟨g, 1, none⟩ = some (.int .i64 hi) := (blk_cell bk4.out 1).trans rfl))
        have bk5 := Aside0.mk (blk_drew bk4.out)
        have s5 := Aside0.mk (hKp.out _ _ _ s4.out (below_drew1 (Below.refl _ _)))
        have z5 := Aside0.mk (show w.heap.size ≤ w4.drew.heap.size from z4.out)
        refine start_ (n := 7) (S := fun w' => w'.cell? ⟨g, 0, none⟩ = some (.int .i64 lo) ∧ w'.cell? ⟨g, 1, none⟩ = some (.int .i64 hi)) (ds := [6]) #[false, false, false, false, false, false, false] (by kernel_rfl) rfl rfl ⟨(blk_cell bk5.out 0).trans rfl, (blk_cell bk5.out 1).trans rfl⟩ (fun hHeld => ?_)
        clear d0 d1 c0 c1 bk4 s4 z4
        generalize w4.drew = w5 at bk5 s5 z5 hHeld ⊢
        refine pure_ (i := 1) (N := some 20) (v := ?_) (a' := ?_) #[false, true, false, false, false, false, false] rfl rfl (by kernel_rfl) (fun _ _ _ h => h) (Or.inl ⟨by rfl, ?_⟩) ?_ ?_
        rotate_left
        · intro w'
          go_simp
          with_reducible rfl
        rotate_left
        · simp only [Act.put, List.setIfInBounds_toArray, List.set_cons_zero, List.set_cons_succ, i64_w, i32_w]
          rfl
        refine take_ (i := 0) (N := some 19) (v := ?_) (a' := ?_) #[true, true, false, false, false, false, false] rfl rfl (by kernel_rfl) (fun _ _ _ h => h) (Or.inl ⟨by rfl, ?_⟩) hHeld ?_ ?_
        rotate_left
        · rintro w' ⟨s0, s1⟩
          go_simp
          with_reducible rfl
        rotate_left
        · simp only [Act.put, List.setIfInBounds_toArray, List.set_cons_zero, List.set_cons_succ, i64_w, i32_w]
          rfl
        refine take_ (i := 2) (N := some 21) (v := ?_) (a' := ?_) #[true, true, true, false, false, false, false] rfl rfl (by kernel_rfl) (fun _ _ _ h => h) (Or.inl ⟨by rfl, ?_⟩) hHeld ?_ ?_
        rotate_left
        · rintro w' ⟨s0, s1⟩
          go_simp
          with_reducible rfl
        rotate_left
        · simp only [Act.put, List.setIfInBounds_toArray, List.set_cons_zero, List.set_cons_succ, i64_w, i32_w]
          rfl
        refine one_ (i := 3) (N := some 22) #[true, true, true, true, false, false, false] rfl rfl (by kernel_rfl) (by decide) (fun K hK => ?_)
        refine goes_ Try.func24 (by kernel_rfl) rfl #[.agg #[.int .i64 lo, .int .i64 hi]] (by rfl) rfl rfl (by (try simp only [List.map_toArray, List.map_cons, List.map_nil]); first | done | rfl) ?_
        with_reducible refine (path_Span_Mid.calls lo hi ((lo + hi) / 2) _ hM.out).mono ?_
        rintro e w6 ⟨rfl, hb⟩
        refine ⟨_, rfl, ?_⟩
        have bk6 := Aside0.mk (blk_below bk5.out hb)
        have s6 := Aside0.mk (hKp.out _ _ _ s5.out (hb.mono z5.out))
        have z6 := Aside0.mk (Nat.le_trans z5.out hb.size)
        clear bk5 s5 z5 hb
        refine hK.out _ _ ⟨(blk_cell bk6.out 0).trans rfl, (blk_cell bk6.out 1).trans rfl⟩ (fun hHeld => ?_)
        clear hK K
        refine norm_ (a' := ?_) ?_ ?_
        rotate_left
        · show Act.put _ (some 22) _ = _
          simp only [Act.put, List.setIfInBounds_toArray, List.set_cons_zero, List.set_cons_succ, i64_w, i32_w]
          rfl
        refine one_ (i := 4) (N := some 23) #[true, true, true, true, true, false, false] rfl rfl (by kernel_rfl) (by decide) (fun K hK => ?_)
        refine call_ fid (#[.int .i64 ((lo + hi) / 2)] ++ caps) (by rfl) rfl ?_ ?_
        · unfold execOp
          simp [resolve, Deferred.ofValue, invoke, Act.eval]
          exact hE.out _ _
        refine (hT.out (s + q) ((lo + hi) / 2) w6 s6.out (by have := hlh.out; omega) (by have := hlh.out; omega) z6.out).mono ?_
        rintro e w7 ⟨rfl, hs7, hz7, hb7⟩
        refine ⟨_, rfl, ?_⟩
        have bk7 := Aside0.mk ((hb7 g GW.out (blk_lt bk6.out)).trans bk6.out)
        have s7 := Aside0.mk hs7
        have z7 := Aside0.mk (Nat.le_trans z6.out hz7)
        clear bk6 s6 z6 hs7 hz7 hb7
        refine hK.out _ _ ⟨(blk_cell bk7.out 0).trans rfl, (blk_cell bk7.out 1).trans rfl⟩ (fun hHeld => ?_)
        clear hK K
        refine norm_ (a' := ?_) ?_ ?_
        rotate_left
        · show Act.put _ (some 23) _ = _
          simp only [Act.put, List.setIfInBounds_toArray, List.set_cons_zero, List.set_cons_succ, i64_w, i32_w]
          rfl
        refine one_ (i := 5) (N := some 24) #[true, true, true, true, true, true, false] rfl rfl (by kernel_rfl) (by decide) (fun K hK => ?_)
        obtain ⟨⟨lo', hi'⟩, hx⟩ : ∃ x : Int × Int, (if p ((lo + hi) / 2) = true then (lo, (lo + hi) / 2) else ((lo + hi) / 2 + 1, hi)) = x := ⟨_, rfl⟩
        have hC1 := Aside0.mk (hC.out.trans (congrArg some hx))
        have hx1 := Aside0.mk hx
        clear hx
        refine goes_ Try.func25 (by kernel_rfl) rfl #[.agg #[.int .i64 lo, .int .i64 hi], .bool (p ((lo + hi) / 2))] (by rfl) rfl rfl (by (try simp only [List.map_toArray, List.map_cons, List.map_nil]); first | done | rfl) ?_
        with_reducible refine (path_Span_Cut.calls lo hi (p ((lo + hi) / 2)) lo' hi' _ hC1.out).mono ?_
        rintro e w8 ⟨rfl, hb⟩
        refine ⟨_, rfl, ?_⟩
        have bk8 := Aside0.mk (blk_below bk7.out hb)
        have s8 := Aside0.mk (hKp.out _ _ _ s7.out (hb.mono z7.out))
        have z8 := Aside0.mk (Nat.le_trans z7.out hb.size)
        clear bk7 s7 z7 hb
        refine hK.out _ _ ⟨(blk_cell bk8.out 0).trans rfl, (blk_cell bk8.out 1).trans rfl⟩ (fun hHeld => ?_)
        clear hK K
        refine norm_ (a' := ?_) ?_ ?_
        rotate_left
        · show Act.put _ (some 24) _ = _
          simp only [Act.put, List.setIfInBounds_toArray, List.set_cons_zero, List.set_cons_succ, i64_w, i32_w]
          rfl
        refine last_ (i := 6) (N := none) #[true, true, true, true, true, true, true] rfl rfl (by kernel_rfl) (by decide) (fun K hK => ?_)
        have e0 : w8.cell? ⟨g, 0, none⟩ = some (.int .i64 lo) := (blk_cell bk8.out 0).trans rfl
        have e1 : w8.cell? ⟨g, 1, none⟩ = some (.int .i64 hi) := (blk_cell bk8.out 1).trans rfl
        have f0 := blk_frozen bk8.out 0
        have f1 := blk_frozen bk8.out 1
        refine skip_ (w1 := ?_) (by rfl) rfl ?_ ?_
        rotate_left
        · go_simp
          rfl
        refine hK.out _ _ ?_
        clear hK K
        refine done_ (by kernel_rfl) ?_
        have bk9 := Aside0.mk (blk_put (cs' := #[.int .i64 lo', .int .i64 hi']) (blk_put (cs' := #[.int .i64 lo', .int .i64 hi]) bk8.out 0 (.int .i64 lo') rfl) 1 (.int .i64 hi') rfl)
        have b9 := Aside0.mk (((Below.refl w.heap.size w8).setCell (p := ⟨g, 0, none⟩) GW.out (.int .i64 lo')).setCell (p := ⟨g, 1, none⟩) GW.out (.int .i64 hi'))
        have s9 := Aside0.mk (hKp.out _ _ _ s8.out b9.out)
        have z9 := Aside0.mk (Nat.le_trans z8.out b9.out.size)
        clear bk8 s8 z8 b9 e0 e1 f0 f1 hHeld
        generalize (w8.setCell _ _).setCell _ _ = w9 at bk9 s9 z9 ⊢
        have hlt : lo < hi := by assumption
        have hl := hlh.out
        have hrel2 := Aside0.mk (show (0 ≤ lo' ∧ lo' ≤ hi' ∧ hi' < n) ∧ (halve p (31 - (k + 1)) lo' hi').1 = (halve p 31 0 (n - 1)).1 ∧ (halve p 31 0 (n - 1)).2 = (q + 1) + (halve p (31 - (k + 1)) lo' hi').2 from by
          have r := hres.out
          have x := hx1.out
          rw [show 31 - k = (31 - (k + 1)) + 1 by omega, halve_step p (31 - (k + 1)) lo hi, if_neg (by omega)] at r
          by_cases hp : p ((lo + hi) / 2) = true
          · rw [if_pos hp] at x r
            simp only [Prod.mk.injEq] at x
            obtain ⟨rfl, rfl⟩ := x
            refine ⟨by omega, r.1, ?_⟩
            have r2 := r.2
            omega
          · rw [if_neg hp] at x r
            simp only [Prod.mk.injEq] at x
            obtain ⟨rfl, rfl⟩ := x
            refine ⟨by omega, r.1, ?_⟩
            have r2 := r.2
            omega)
        clear hres hx1 hlh hC1 hl hD hM hC
        go_wp2
        go_roundw
        case rel => exact ⟨k + 1, lo', hi', q + 1, by go_num, by omega, ⟨hrel2.out.1⟩, bk9, s9, z9, ⟨hrel2.out.2⟩⟩
        case measure => simp [intOf]; omega
    · obtain rfl : k = 31 := by omega
      go_wp2
      go_ret
      refine ⟨?_, ?_⟩
      · have e1 : (halve p (31 - 31) lo hi).1 = lo := rfl
        rw [← hres.out.1, e1]
        rfl
      · have e1 : (halve p (31 - 31) lo hi).2 = 0 := rfl
        have e2 := hres.out.2
        rw [e1, Nat.add_zero] at e2
        rw [e2]
        exact hs.out
end Go.Proofs.Ytegpplokfjojbaa.FirstWalk
