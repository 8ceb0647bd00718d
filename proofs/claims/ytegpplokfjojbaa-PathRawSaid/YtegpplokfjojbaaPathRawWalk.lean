/- The walk of PathRaw: for every two numbers (int) and every answer the law returns true and what stood in memory stays as it was; there is no condition. -/
import Derived.Test.YtegpplokfjojbaaPathLives
import Derived.Test.YtegpplokfjojbaaWEqStruct
namespace Go.Proofs.Ytegpplokfjojbaa.PathRawWalk
open Go.RowKit Go.Proofs.Ytegpplokfjojbaa.PPathCuts Go.Proofs.Ytegpplokfjojbaa.FirstWalk Go.Proofs.Ytegpplokfjojbaa.PathLives Go.Proofs.YtegpplokfjojbaaW.PrintWords Go.Proofs.YtegpplokfjojbaaW.PrintLast Go.Proofs.YtegpplokfjojbaaW.PrintMore
attribute [local go_sem] max2_int min2_int max_two min_two max_three min_three max_four min_four
set_option linter.unusedVariables false
set_option linter.unusedSimpArgs false

/-- A number within bounds. -/
def clipped (n : Int) : Int := mx 0 (mn n 1073741824)
theorem clipped_range (n : Int) : 0 ≤ clipped n ∧ clipped n ≤ 1073741824 := by
  unfold clipped mx mn
  split <;> split <;> omega

theorem mid_any (lo hi : Int) : path_Span_Mid.f lo hi = some ((clipped lo + clipped hi) / 2) := by
  have a := clipped_range lo
  have b := clipped_range hi
  unfold path_Span_Mid.f path_clip.f
  simp only [Option.bind_some]
  show some (wrap64 (Int.tdiv (wrap64 (clipped lo + clipped hi)) 2)) = _
  congr 1
  rw [show wrap64 (clipped lo + clipped hi) = clipped lo + clipped hi by unfold wrap64; omega, Int.tdiv_eq_ediv_of_nonneg (by omega)]
  unfold wrap64
  omega

/-- What a span is, cut. -/
def cutOf (lo hi : Int) (b : Bool) : Int × Int := if lo ≥ hi then (lo, hi) else if b = true then (lo, (clipped lo + clipped hi) / 2) else ((clipped lo + clipped hi) / 2 + 1, hi)

theorem cut_any (lo hi : Int) (b : Bool) : path_Span_Cut.f lo hi b = some (cutOf lo hi b) := by
  have h1 := clipped_range lo
  have h2 := clipped_range hi
  unfold path_Span_Cut.f cutOf
  rw [done_is, mid_any lo hi]
  simp only [Option.bind_some, decide_eq_true_eq]
  by_cases h : lo ≥ hi
  · rw [if_pos h, if_pos h]
  · rw [if_neg h, if_neg h]
    cases b
    · simp
      unfold wrap64
      omega
    · simp

/-- '==' of two spans. -/
theorem eq40 (a b c d : Int) (w : World) : (Op.equalIn 10000 40 (.agg #[.int .i64 a, .int .i64 b]) (.agg #[.int .i64 c, .int .i64 d])).run Try.prog w = .ok (a == c && b == d) w := by
  have u3 := Try.underlying3
  have a3 := Try.isAgg3
  have z3 := Try.sizeOf3
  have hp : Try.prog.stoodInHeld 40 = false := by kernel_rfl
  refine eqA_of (d := 9999) Try.underlying40 hp ?_
  refine eqf_cons rfl (a := .int .i64 a) (b := .int .i64 c) ?_ ?_ ?_ (eqf_last rfl (a := .int .i64 b) (b := .int .i64 d) ?_ ?_ ?_) <;> go_simp

set_option maxHeartbeats 4000000 in
set_option maxRecDepth 100000 in
theorem raw_yes (lo hi : Int) (w : World) (hlt : lo < hi) :
    Calls Try.prog 8 #[.int .i64 lo, .int .i64 hi, .bool true] w fun e w' => e = .returned (.bool true) ∧ Below w.heap.size w w' := by
  have hu40 := Try.underlying40
  have ra := clipped_range lo
  have rb := clipped_range hi
  have hm := Aside0.mk (mid_any lo hi)
  have hd := Aside0.mk (show path_Span_Done.f lo hi = some false by rw [done_is]; congr 1; rw [decide_eq_false_iff_not]; omega)
  have hc := Aside0.mk (show path_Span_Cut.f lo hi true = some (lo, (clipped lo + clipped hi) / 2) by rw [cut_any]; unfold cutOf; rw [if_neg (by omega), if_pos rfl])
  have g0 : decide (lo ≥ hi) = false := by rw [decide_eq_false_iff_not]; omega
  obtain ⟨A1, hA1⟩ : ∃ x : Int, mn lo 1073741824 = x := ⟨_, rfl⟩
  obtain ⟨B1, hB1⟩ : ∃ x : Int, mn hi 1073741824 = x := ⟨_, rfl⟩
  have eA1 : (if 1073741824 < lo then 1073741824 else lo) = A1 := hA1
  have eB1 : (if 1073741824 < hi then 1073741824 else hi) = B1 := hB1
  have eA2 : (if 0 < A1 then A1 else 0) = clipped lo := by unfold clipped; rw [hA1]; rfl
  have eB2 : (if 0 < B1 then B1 else 0) = clipped hi := by unfold clipped; rw [hB1]; rfl
  clear hA1 hB1
  generalize clipped lo = A at *
  generalize clipped hi = B at *
  have hlt1 := Aside0.mk hlt
  clear hlt
  go_enter Try.func8, Try.ntmps8
  go_wp2_with fail
  have HB := Aside0.mk (show Below w.heap.size w (((w.alloc (Obj.cells #[Value.int IntKind.i64 lo, Value.int IntKind.i64 hi] 40)).alloc (Obj.cells #[Value.int IntKind.i64 lo, Value.int IntKind.i64 ((A + B) / 2)] 40))) from ((Below.refl _ _).alloc (Nat.le_refl _) _).alloc (by simp) _)
  have BA := Aside0.mk (show ((w.alloc (Obj.cells #[Value.int IntKind.i64 lo, Value.int IntKind.i64 hi] 40)).alloc (Obj.cells #[Value.int IntKind.i64 lo, Value.int IntKind.i64 ((A + B) / 2)] 40)).heap[w.heap.size]? = some (.cells #[Value.int IntKind.i64 lo, Value.int IntKind.i64 hi] 40 (0, 0)) from blk_alloc (blk_new _ _) _)
  have BC := Aside0.mk (show ((w.alloc (Obj.cells #[Value.int IntKind.i64 lo, Value.int IntKind.i64 hi] 40)).alloc (Obj.cells #[Value.int IntKind.i64 lo, Value.int IntKind.i64 ((A + B) / 2)] 40)).heap[w.heap.size + 1]? = some (.cells #[Value.int IntKind.i64 lo, Value.int IntKind.i64 ((A + B) / 2)] 40 (0, 0)) from by have h := blk_new (w.alloc (Obj.cells #[Value.int IntKind.i64 lo, Value.int IntKind.i64 hi] 40)) (Obj.cells #[Value.int IntKind.i64 lo, Value.int IntKind.i64 ((A + B) / 2)] 40); simpa using h)
  generalize hW : (w.alloc (Obj.cells #[Value.int IntKind.i64 lo, Value.int IntKind.i64 hi] 40)).alloc (Obj.cells #[Value.int IntKind.i64 lo, Value.int IntKind.i64 ((A + B) / 2)] 40) = W at *
  clear hW
  generalize w.heap.size + 1 = g2 at *
  have hbase := Aside0.mk HB.out.size
  generalize hg1 : w.heap.size = g1 at *
  have n1 : (lo == lo && (A + B) / 2 == (A + B) / 2) = true := by simp
  have eqr := eq40 lo ((A + B) / 2) lo ((A + B) / 2)
  go_region_held3 (fun w' => w'.cell? ⟨g1, 0, none⟩ = some (.int .i64 lo) ∧ w'.cell? ⟨g1, 1, none⟩ = some (.int .i64 hi) ∧ w'.cell? ⟨g2, 0, none⟩ = some (.int .i64 lo) ∧ w'.cell? ⟨g2, 1, none⟩ = some (.int .i64 ((A + B) / 2)))
    (first
      | exact ⟨(blk_cell BA.out 0).trans rfl, (blk_cell BA.out 1).trans rfl, (blk_cell BC.out 0).trans rfl, (blk_cell BC.out 1).trans rfl⟩
      | exact ⟨(blk_cell (blk_drew BA.out) 0).trans rfl, (blk_cell (blk_drew BA.out) 1).trans rfl, (blk_cell (blk_drew BC.out) 0).trans rfl, (blk_cell (blk_drew BC.out) 1).trans rfl⟩
      | go_keep)
    (first
      | (go_at_call 23; (with_reducible refine (path_Span_Done.calls lo hi false _ hd.out).mono ?_); rintro e w3 ⟨rfl, hb⟩; have m1 := Aside0.mk (blk_below (blk_drew BA.out) hb); have m2 := Aside0.mk (blk_below (blk_drew BC.out) hb); have m3 := Aside0.mk ((below_drew1 HB.out).trans (hb.mono hbase.out)); have m4 := Aside0.mk (Nat.le_trans hbase.out hb.size); clear BA BC HB hb hbase; have BA := m1; have BC := m2; have HB := m3; have hbase := m4; clear m1 m2 m3 m4)
      | (go_at_call 24; (with_reducible refine (path_Span_Mid.calls lo hi ((A + B) / 2) _ hm.out).mono ?_); rintro e w3 ⟨rfl, hb⟩; have m1 := Aside0.mk (blk_below BA.out hb); have m2 := Aside0.mk (blk_below BC.out hb); have m3 := Aside0.mk (HB.out.trans (hb.mono hbase.out)); have m4 := Aside0.mk (Nat.le_trans hbase.out hb.size); clear BA BC HB hb hbase; have BA := m1; have BC := m2; have HB := m3; have hbase := m4; clear m1 m2 m3 m4)
      | (go_at_call 25; (with_reducible refine (path_Span_Cut.calls lo hi true lo ((A + B) / 2) _ hc.out).mono ?_); rintro e w3 ⟨rfl, hb⟩; have m1 := Aside0.mk (blk_below BA.out hb); have m2 := Aside0.mk (blk_below BC.out hb); have m3 := Aside0.mk (HB.out.trans (hb.mono hbase.out)); have m4 := Aside0.mk (Nat.le_trans hbase.out hb.size); clear BA BC HB hb hbase; have BA := m1; have BC := m2; have HB := m3; have hbase := m4; clear m1 m2 m3 m4)
      | (go_at_call 21; (with_reducible refine (lives_calls _).mono ?_); rintro e w3 ⟨rfl, hb⟩; have m1 := Aside0.mk (blk_below BA.out hb); have m2 := Aside0.mk (blk_below BC.out hb); have m3 := Aside0.mk (HB.out.trans (hb.mono hbase.out)); have m4 := Aside0.mk (Nat.le_trans hbase.out hb.size); clear BA BC HB hb hbase; have BA := m1; have BC := m2; have HB := m3; have hbase := m4; clear m1 m2 m3 m4))
  go_wp2
  go_ret
  rw [hg1]
  exact ⟨rfl, HB.out⟩

set_option maxHeartbeats 4000000 in
set_option maxRecDepth 100000 in
theorem raw_no (lo hi : Int) (w : World) (hlt : lo < hi) :
    Calls Try.prog 8 #[.int .i64 lo, .int .i64 hi, .bool false] w fun e w' => e = .returned (.bool true) ∧ Below w.heap.size w w' := by
  have hu40 := Try.underlying40
  have ra := clipped_range lo
  have rb := clipped_range hi
  have hm := Aside0.mk (mid_any lo hi)
  have hd := Aside0.mk (show path_Span_Done.f lo hi = some false by rw [done_is]; congr 1; rw [decide_eq_false_iff_not]; omega)
  have hc := Aside0.mk (show path_Span_Cut.f lo hi false = some ((clipped lo + clipped hi) / 2 + 1, hi) by rw [cut_any]; unfold cutOf; rw [if_neg (by omega), if_neg (by decide)])
  have g0 : decide (lo ≥ hi) = false := by rw [decide_eq_false_iff_not]; omega
  obtain ⟨A1, hA1⟩ : ∃ x : Int, mn lo 1073741824 = x := ⟨_, rfl⟩
  obtain ⟨B1, hB1⟩ : ∃ x : Int, mn hi 1073741824 = x := ⟨_, rfl⟩
  have eA1 : (if 1073741824 < lo then 1073741824 else lo) = A1 := hA1
  have eB1 : (if 1073741824 < hi then 1073741824 else hi) = B1 := hB1
  have eA2 : (if 0 < A1 then A1 else 0) = clipped lo := by unfold clipped; rw [hA1]; rfl
  have eB2 : (if 0 < B1 then B1 else 0) = clipped hi := by unfold clipped; rw [hB1]; rfl
  clear hA1 hB1
  generalize clipped lo = A at *
  generalize clipped hi = B at *
  have hlt1 := Aside0.mk hlt
  clear hlt
  go_enter Try.func8, Try.ntmps8
  go_wp2_with fail
  have HB := Aside0.mk (show Below w.heap.size w (((w.alloc (Obj.cells #[Value.int IntKind.i64 lo, Value.int IntKind.i64 hi] 40)).alloc (Obj.cells #[Value.int IntKind.i64 ((A + B) / 2 + 1), Value.int IntKind.i64 hi] 40))) from ((Below.refl _ _).alloc (Nat.le_refl _) _).alloc (by simp) _)
  have BA := Aside0.mk (show ((w.alloc (Obj.cells #[Value.int IntKind.i64 lo, Value.int IntKind.i64 hi] 40)).alloc (Obj.cells #[Value.int IntKind.i64 ((A + B) / 2 + 1), Value.int IntKind.i64 hi] 40)).heap[w.heap.size]? = some (.cells #[Value.int IntKind.i64 lo, Value.int IntKind.i64 hi] 40 (0, 0)) from blk_alloc (blk_new _ _) _)
  have BC := Aside0.mk (show ((w.alloc (Obj.cells #[Value.int IntKind.i64 lo, Value.int IntKind.i64 hi] 40)).alloc (Obj.cells #[Value.int IntKind.i64 ((A + B) / 2 + 1), Value.int IntKind.i64 hi] 40)).heap[w.heap.size + 1]? = some (.cells #[Value.int IntKind.i64 ((A + B) / 2 + 1), Value.int IntKind.i64 hi] 40 (0, 0)) from by have h := blk_new (w.alloc (Obj.cells #[Value.int IntKind.i64 lo, Value.int IntKind.i64 hi] 40)) (Obj.cells #[Value.int IntKind.i64 ((A + B) / 2 + 1), Value.int IntKind.i64 hi] 40); simpa using h)
  generalize hW : (w.alloc (Obj.cells #[Value.int IntKind.i64 lo, Value.int IntKind.i64 hi] 40)).alloc (Obj.cells #[Value.int IntKind.i64 ((A + B) / 2 + 1), Value.int IntKind.i64 hi] 40) = W at *
  clear hW
  generalize w.heap.size + 1 = g2 at *
  have hbase := Aside0.mk HB.out.size
  generalize hg1 : w.heap.size = g1 at *
  have n1 : ((A + B) / 2 + 1 == (A + B) / 2 + 1 && hi == hi) = true := by simp
  have eqr := eq40 ((A + B) / 2 + 1) hi ((A + B) / 2 + 1) hi
  go_region_held3 (fun w' => w'.cell? ⟨g1, 0, none⟩ = some (.int .i64 lo) ∧ w'.cell? ⟨g1, 1, none⟩ = some (.int .i64 hi) ∧ w'.cell? ⟨g2, 0, none⟩ = some (.int .i64 ((A + B) / 2 + 1)) ∧ w'.cell? ⟨g2, 1, none⟩ = some (.int .i64 hi))
    (first
      | exact ⟨(blk_cell BA.out 0).trans rfl, (blk_cell BA.out 1).trans rfl, (blk_cell BC.out 0).trans rfl, (blk_cell BC.out 1).trans rfl⟩
      | exact ⟨(blk_cell (blk_drew BA.out) 0).trans rfl, (blk_cell (blk_drew BA.out) 1).trans rfl, (blk_cell (blk_drew BC.out) 0).trans rfl, (blk_cell (blk_drew BC.out) 1).trans rfl⟩
      | go_keep)
    (first
      | (go_at_call 23; (with_reducible refine (path_Span_Done.calls lo hi false _ hd.out).mono ?_); rintro e w3 ⟨rfl, hb⟩; have m1 := Aside0.mk (blk_below (blk_drew BA.out) hb); have m2 := Aside0.mk (blk_below (blk_drew BC.out) hb); have m3 := Aside0.mk ((below_drew1 HB.out).trans (hb.mono hbase.out)); have m4 := Aside0.mk (Nat.le_trans hbase.out hb.size); clear BA BC HB hb hbase; have BA := m1; have BC := m2; have HB := m3; have hbase := m4; clear m1 m2 m3 m4)
      | (go_at_call 24; (with_reducible refine (path_Span_Mid.calls lo hi ((A + B) / 2) _ hm.out).mono ?_); rintro e w3 ⟨rfl, hb⟩; have m1 := Aside0.mk (blk_below BA.out hb); have m2 := Aside0.mk (blk_below BC.out hb); have m3 := Aside0.mk (HB.out.trans (hb.mono hbase.out)); have m4 := Aside0.mk (Nat.le_trans hbase.out hb.size); clear BA BC HB hb hbase; have BA := m1; have BC := m2; have HB := m3; have hbase := m4; clear m1 m2 m3 m4)
      | (go_at_call 25; (with_reducible refine (path_Span_Cut.calls lo hi false ((A + B) / 2 + 1) hi _ hc.out).mono ?_); rintro e w3 ⟨rfl, hb⟩; have m1 := Aside0.mk (blk_below BA.out hb); have m2 := Aside0.mk (blk_below BC.out hb); have m3 := Aside0.mk (HB.out.trans (hb.mono hbase.out)); have m4 := Aside0.mk (Nat.le_trans hbase.out hb.size); clear BA BC HB hb hbase; have BA := m1; have BC := m2; have HB := m3; have hbase := m4; clear m1 m2 m3 m4)
      | (go_at_call 21; (with_reducible refine (lives_calls _).mono ?_); rintro e w3 ⟨rfl, hb⟩; have m1 := Aside0.mk (blk_below BA.out hb); have m2 := Aside0.mk (blk_below BC.out hb); have m3 := Aside0.mk (HB.out.trans (hb.mono hbase.out)); have m4 := Aside0.mk (Nat.le_trans hbase.out hb.size); clear BA BC HB hb hbase; have BA := m1; have BC := m2; have HB := m3; have hbase := m4; clear m1 m2 m3 m4))
  go_wp2
  go_ret
  rw [hg1]
  exact ⟨rfl, HB.out⟩

set_option maxHeartbeats 4000000 in
set_option maxRecDepth 100000 in
theorem raw_done_true (lo hi : Int) (w : World) (hlt : hi ≤ lo) :
    Calls Try.prog 8 #[.int .i64 lo, .int .i64 hi, .bool true] w fun e w' => e = .returned (.bool true) ∧ Below w.heap.size w w' := by
  have hu40 := Try.underlying40
  have ra := clipped_range lo
  have rb := clipped_range hi
  have hm := Aside0.mk (mid_any lo hi)
  have hd := Aside0.mk (show path_Span_Done.f lo hi = some true by rw [done_is]; congr 1; rw [decide_eq_true_eq]; omega)
  have hc := Aside0.mk (show path_Span_Cut.f lo hi true = some (lo, hi) by rw [cut_any]; unfold cutOf; rw [if_pos (by omega)])
  have g0 : decide (lo ≥ hi) = true := by rw [decide_eq_true_eq]; omega
  obtain ⟨A1, hA1⟩ : ∃ x : Int, mn lo 1073741824 = x := ⟨_, rfl⟩
  obtain ⟨B1, hB1⟩ : ∃ x : Int, mn hi 1073741824 = x := ⟨_, rfl⟩
  have eA1 : (if 1073741824 < lo then 1073741824 else lo) = A1 := hA1
  have eB1 : (if 1073741824 < hi then 1073741824 else hi) = B1 := hB1
  have eA2 : (if 0 < A1 then A1 else 0) = clipped lo := by unfold clipped; rw [hA1]; rfl
  have eB2 : (if 0 < B1 then B1 else 0) = clipped hi := by unfold clipped; rw [hB1]; rfl
  clear hA1 hB1
  generalize clipped lo = A at *
  generalize clipped hi = B at *
  have hlt1 := Aside0.mk hlt
  clear hlt
  go_enter Try.func8, Try.ntmps8
  go_wp2_with fail
  have HB := Aside0.mk (show Below w.heap.size w (((w.alloc (Obj.cells #[Value.int IntKind.i64 lo, Value.int IntKind.i64 hi] 40)).alloc (Obj.cells #[Value.int IntKind.i64 lo, Value.int IntKind.i64 hi] 40))) from ((Below.refl _ _).alloc (Nat.le_refl _) _).alloc (by simp) _)
  have BA := Aside0.mk (show ((w.alloc (Obj.cells #[Value.int IntKind.i64 lo, Value.int IntKind.i64 hi] 40)).alloc (Obj.cells #[Value.int IntKind.i64 lo, Value.int IntKind.i64 hi] 40)).heap[w.heap.size]? = some (.cells #[Value.int IntKind.i64 lo, Value.int IntKind.i64 hi] 40 (0, 0)) from blk_alloc (blk_new _ _) _)
  have BC := Aside0.mk (show ((w.alloc (Obj.cells #[Value.int IntKind.i64 lo, Value.int IntKind.i64 hi] 40)).alloc (Obj.cells #[Value.int IntKind.i64 lo, Value.int IntKind.i64 hi] 40)).heap[w.heap.size + 1]? = some (.cells #[Value.int IntKind.i64 lo, Value.int IntKind.i64 hi] 40 (0, 0)) from by have h := blk_new (w.alloc (Obj.cells #[Value.int IntKind.i64 lo, Value.int IntKind.i64 hi] 40)) (Obj.cells #[Value.int IntKind.i64 lo, Value.int IntKind.i64 hi] 40); simpa using h)
  generalize hW : (w.alloc (Obj.cells #[Value.int IntKind.i64 lo, Value.int IntKind.i64 hi] 40)).alloc (Obj.cells #[Value.int IntKind.i64 lo, Value.int IntKind.i64 hi] 40) = W at *
  clear hW
  generalize w.heap.size + 1 = g2 at *
  have hbase := Aside0.mk HB.out.size
  generalize hg1 : w.heap.size = g1 at *
  have n1 : (lo == lo && hi == hi) = true := by simp
  have eqr := eq40 lo hi lo hi
  go_region_held3 (fun w' => w'.cell? ⟨g1, 0, none⟩ = some (.int .i64 lo) ∧ w'.cell? ⟨g1, 1, none⟩ = some (.int .i64 hi) ∧ w'.cell? ⟨g2, 0, none⟩ = some (.int .i64 lo) ∧ w'.cell? ⟨g2, 1, none⟩ = some (.int .i64 hi))
    (first
      | exact ⟨(blk_cell BA.out 0).trans rfl, (blk_cell BA.out 1).trans rfl, (blk_cell BC.out 0).trans rfl, (blk_cell BC.out 1).trans rfl⟩
      | exact ⟨(blk_cell (blk_drew BA.out) 0).trans rfl, (blk_cell (blk_drew BA.out) 1).trans rfl, (blk_cell (blk_drew BC.out) 0).trans rfl, (blk_cell (blk_drew BC.out) 1).trans rfl⟩
      | go_keep)
    (first
      | (go_at_call 23; (with_reducible refine (path_Span_Done.calls lo hi true _ hd.out).mono ?_); rintro e w3 ⟨rfl, hb⟩; have m1 := Aside0.mk (blk_below (blk_drew BA.out) hb); have m2 := Aside0.mk (blk_below (blk_drew BC.out) hb); have m3 := Aside0.mk ((below_drew1 HB.out).trans (hb.mono hbase.out)); have m4 := Aside0.mk (Nat.le_trans hbase.out hb.size); clear BA BC HB hb hbase; have BA := m1; have BC := m2; have HB := m3; have hbase := m4; clear m1 m2 m3 m4)
      | (go_at_call 24; (with_reducible refine (path_Span_Mid.calls lo hi ((A + B) / 2) _ hm.out).mono ?_); rintro e w3 ⟨rfl, hb⟩; have m1 := Aside0.mk (blk_below BA.out hb); have m2 := Aside0.mk (blk_below BC.out hb); have m3 := Aside0.mk (HB.out.trans (hb.mono hbase.out)); have m4 := Aside0.mk (Nat.le_trans hbase.out hb.size); clear BA BC HB hb hbase; have BA := m1; have BC := m2; have HB := m3; have hbase := m4; clear m1 m2 m3 m4)
      | (go_at_call 25; (with_reducible refine (path_Span_Cut.calls lo hi true lo hi _ hc.out).mono ?_); rintro e w3 ⟨rfl, hb⟩; have m1 := Aside0.mk (blk_below BA.out hb); have m2 := Aside0.mk (blk_below BC.out hb); have m3 := Aside0.mk (HB.out.trans (hb.mono hbase.out)); have m4 := Aside0.mk (Nat.le_trans hbase.out hb.size); clear BA BC HB hb hbase; have BA := m1; have BC := m2; have HB := m3; have hbase := m4; clear m1 m2 m3 m4)
      | (go_at_call 21; (with_reducible refine (lives_calls _).mono ?_); rintro e w3 ⟨rfl, hb⟩; have m1 := Aside0.mk (blk_below BA.out hb); have m2 := Aside0.mk (blk_below BC.out hb); have m3 := Aside0.mk (HB.out.trans (hb.mono hbase.out)); have m4 := Aside0.mk (Nat.le_trans hbase.out hb.size); clear BA BC HB hb hbase; have BA := m1; have BC := m2; have HB := m3; have hbase := m4; clear m1 m2 m3 m4))
  go_wp2
  go_ret
  rw [hg1]
  exact ⟨rfl, HB.out⟩

set_option maxHeartbeats 4000000 in
set_option maxRecDepth 100000 in
theorem raw_done_false (lo hi : Int) (w : World) (hlt : hi ≤ lo) :
    Calls Try.prog 8 #[.int .i64 lo, .int .i64 hi, .bool false] w fun e w' => e = .returned (.bool true) ∧ Below w.heap.size w w' := by
  have hu40 := Try.underlying40
  have ra := clipped_range lo
  have rb := clipped_range hi
  have hm := Aside0.mk (mid_any lo hi)
  have hd := Aside0.mk (show path_Span_Done.f lo hi = some true by rw [done_is]; congr 1; rw [decide_eq_true_eq]; omega)
  have hc := Aside0.mk (show path_Span_Cut.f lo hi false = some (lo, hi) by rw [cut_any]; unfold cutOf; rw [if_pos (by omega)])
  have g0 : decide (lo ≥ hi) = true := by rw [decide_eq_true_eq]; omega
  obtain ⟨A1, hA1⟩ : ∃ x : Int, mn lo 1073741824 = x := ⟨_, rfl⟩
  obtain ⟨B1, hB1⟩ : ∃ x : Int, mn hi 1073741824 = x := ⟨_, rfl⟩
  have eA1 : (if 1073741824 < lo then 1073741824 else lo) = A1 := hA1
  have eB1 : (if 1073741824 < hi then 1073741824 else hi) = B1 := hB1
  have eA2 : (if 0 < A1 then A1 else 0) = clipped lo := by unfold clipped; rw [hA1]; rfl
  have eB2 : (if 0 < B1 then B1 else 0) = clipped hi := by unfold clipped; rw [hB1]; rfl
  clear hA1 hB1
  generalize clipped lo = A at *
  generalize clipped hi = B at *
  have hlt1 := Aside0.mk hlt
  clear hlt
  go_enter Try.func8, Try.ntmps8
  go_wp2_with fail
  have HB := Aside0.mk (show Below w.heap.size w (((w.alloc (Obj.cells #[Value.int IntKind.i64 lo, Value.int IntKind.i64 hi] 40)).alloc (Obj.cells #[Value.int IntKind.i64 lo, Value.int IntKind.i64 hi] 40))) from ((Below.refl _ _).alloc (Nat.le_refl _) _).alloc (by simp) _)
  have BA := Aside0.mk (show ((w.alloc (Obj.cells #[Value.int IntKind.i64 lo, Value.int IntKind.i64 hi] 40)).alloc (Obj.cells #[Value.int IntKind.i64 lo, Value.int IntKind.i64 hi] 40)).heap[w.heap.size]? = some (.cells #[Value.int IntKind.i64 lo, Value.int IntKind.i64 hi] 40 (0, 0)) from blk_alloc (blk_new _ _) _)
  have BC := Aside0.mk (show ((w.alloc (Obj.cells #[Value.int IntKind.i64 lo, Value.int IntKind.i64 hi] 40)).alloc (Obj.cells #[Value.int IntKind.i64 lo, Value.int IntKind.i64 hi] 40)).heap[w.heap.size + 1]? = some (.cells #[Value.int IntKind.i64 lo, Value.int IntKind.i64 hi] 40 (0, 0)) from by have h := blk_new (w.alloc (Obj.cells #[Value.int IntKind.i64 lo, Value.int IntKind.i64 hi] 40)) (Obj.cells #[Value.int IntKind.i64 lo, Value.int IntKind.i64 hi] 40); simpa using h)
  generalize hW : (w.alloc (Obj.cells #[Value.int IntKind.i64 lo, Value.int IntKind.i64 hi] 40)).alloc (Obj.cells #[Value.int IntKind.i64 lo, Value.int IntKind.i64 hi] 40) = W at *
  clear hW
  generalize w.heap.size + 1 = g2 at *
  have hbase := Aside0.mk HB.out.size
  generalize hg1 : w.heap.size = g1 at *
  have n1 : (lo == lo && hi == hi) = true := by simp
  have eqr := eq40 lo hi lo hi
  go_region_held3 (fun w' => w'.cell? ⟨g1, 0, none⟩ = some (.int .i64 lo) ∧ w'.cell? ⟨g1, 1, none⟩ = some (.int .i64 hi) ∧ w'.cell? ⟨g2, 0, none⟩ = some (.int .i64 lo) ∧ w'.cell? ⟨g2, 1, none⟩ = some (.int .i64 hi))
    (first
      | exact ⟨(blk_cell BA.out 0).trans rfl, (blk_cell BA.out 1).trans rfl, (blk_cell BC.out 0).trans rfl, (blk_cell BC.out 1).trans rfl⟩
      | exact ⟨(blk_cell (blk_drew BA.out) 0).trans rfl, (blk_cell (blk_drew BA.out) 1).trans rfl, (blk_cell (blk_drew BC.out) 0).trans rfl, (blk_cell (blk_drew BC.out) 1).trans rfl⟩
      | go_keep)
    (first
      | (go_at_call 23; (with_reducible refine (path_Span_Done.calls lo hi true _ hd.out).mono ?_); rintro e w3 ⟨rfl, hb⟩; have m1 := Aside0.mk (blk_below (blk_drew BA.out) hb); have m2 := Aside0.mk (blk_below (blk_drew BC.out) hb); have m3 := Aside0.mk ((below_drew1 HB.out).trans (hb.mono hbase.out)); have m4 := Aside0.mk (Nat.le_trans hbase.out hb.size); clear BA BC HB hb hbase; have BA := m1; have BC := m2; have HB := m3; have hbase := m4; clear m1 m2 m3 m4)
      | (go_at_call 24; (with_reducible refine (path_Span_Mid.calls lo hi ((A + B) / 2) _ hm.out).mono ?_); rintro e w3 ⟨rfl, hb⟩; have m1 := Aside0.mk (blk_below BA.out hb); have m2 := Aside0.mk (blk_below BC.out hb); have m3 := Aside0.mk (HB.out.trans (hb.mono hbase.out)); have m4 := Aside0.mk (Nat.le_trans hbase.out hb.size); clear BA BC HB hb hbase; have BA := m1; have BC := m2; have HB := m3; have hbase := m4; clear m1 m2 m3 m4)
      | (go_at_call 25; (with_reducible refine (path_Span_Cut.calls lo hi false lo hi _ hc.out).mono ?_); rintro e w3 ⟨rfl, hb⟩; have m1 := Aside0.mk (blk_below BA.out hb); have m2 := Aside0.mk (blk_below BC.out hb); have m3 := Aside0.mk (HB.out.trans (hb.mono hbase.out)); have m4 := Aside0.mk (Nat.le_trans hbase.out hb.size); clear BA BC HB hb hbase; have BA := m1; have BC := m2; have HB := m3; have hbase := m4; clear m1 m2 m3 m4)
      | (go_at_call 21; (with_reducible refine (lives_calls _).mono ?_); rintro e w3 ⟨rfl, hb⟩; have m1 := Aside0.mk (blk_below BA.out hb); have m2 := Aside0.mk (blk_below BC.out hb); have m3 := Aside0.mk (HB.out.trans (hb.mono hbase.out)); have m4 := Aside0.mk (Nat.le_trans hbase.out hb.size); clear BA BC HB hb hbase; have BA := m1; have BC := m2; have HB := m3; have hbase := m4; clear m1 m2 m3 m4))
  go_wp2
  go_ret
  rw [hg1]
  exact ⟨rfl, HB.out⟩

theorem walk (lo hi : Int) (b : Bool) (w : World) :
    Calls Try.prog 8 #[.int .i64 lo, .int .i64 hi, .bool b] w fun e w' => e = .returned (.bool true) ∧ Below w.heap.size w w' := by
  by_cases h : lo < hi
  · cases b
    · exact raw_no lo hi w h
    · exact raw_yes lo hi w h
  · cases b
    · exact raw_done_false lo hi w (by omega)
    · exact raw_done_true lo hi w (by omega)

end Go.Proofs.Ytegpplokfjojbaa.PathRawWalk
