/- The walk of OrdOrders: for every two pairs of numbers (uint32) the law returns true and what stood in memory stays as it was; there is no condition. -/
import Derived.Test.YtegpplokfjojbaaPOrdPartsx1
import Derived.Laws.Bits64
import Derived.Laws.StructEq
namespace Go.Proofs.Ytegpplokfjojbaa.OrdOrdersWalk
open Go.RowKit Go.Proofs.Ytegpplokfjojbaa.POrdParts Go.Proofs.YtegpplokfjojbaaW.PrintWords Go.Proofs.YtegpplokfjojbaaW.PrintLast Go.Proofs.YtegpplokfjojbaaW.PrintMore

theorem of_u32 {x : Int} (h : (Lit.int .u32 x).wf = true) : 0 ≤ x ∧ x < 4294967296 := by
  simp [Lit.wf, IntKind.min, IntKind.max, IntKind.bits, IntKind.signed] at h
  omega

theorem wraps (n : Int) (h0 : 0 ≤ n) (h1 : n < 2 ^ 64) : IntKind.u64.wrap n = n := by
  rw [IntKind.wrap_u64]
  omega

/-- An order number. -/
def mk (a b : Int) : Int := a * 4294967296 + b

theorem make_is (a b : Int) (a0 : 0 ≤ a) (a1 : a < 4294967296) (b0 : 0 ≤ b) (b1 : b < 4294967296) :
    Go.bits .or .u64 (IntKind.u64.wrap (IntKind.u64.wrap a * 4294967296)) (IntKind.u64.wrap b) = mk a b := by
  unfold mk
  rw [wraps a a0 (by omega), wraps b b0 (by omega), wraps (a * 4294967296) (by omega) (by omega)]
  rw [bits_join .u64 64 (by decide) wraps 32 _ _ (by omega) (by omega) (by omega) b0 (by omega) (by omega)]

theorem lives_is : jostlelaw02_lives.f = some true := by decide +kernel

theorem make_calls (a b : Int) (w : World) (a0 : 0 ≤ a) (a1 : a < 4294967296) (b0 : 0 ≤ b) (b1 : b < 4294967296) :
    Calls Try.prog 12 #[.int .u32 a, .int .u32 b] w fun e w' => e = .returned (.int .u64 (mk a b)) ∧ w' = w := by
  rw [← make_is a b a0 a1 b0 b1]
  clear a0 a1 b0 b1
  go_enter Try.func12, Try.ntmps12
  go_wp2
  go_ret
  exact ⟨rfl, rfl⟩

theorem key_calls (a b : Int) (w : World) (a0 : 0 ≤ a) (a1 : a < 4294967296) (b0 : 0 ≤ b) (b1 : b < 4294967296) :
    Calls Try.prog 13 #[.int .u64 (mk a b)] w fun e w' => e = .returned (.int .u32 a) ∧ w' = w := by
  have h : (mk a b / 4294967296) % 4294967296 = a := by unfold mk; omega
  refine (show Calls Try.prog 13 #[.int .u64 (mk a b)] w fun e w' => e = .returned (.int .u32 ((mk a b / 4294967296) % 4294967296)) ∧ w' = w from ?_).mono (by rw [h]; exact fun _ _ h => h)
  clear h a0 a1 b0 b1
  go_enter Try.func13, Try.ntmps13
  go_wp2
  go_ret
  exact ⟨rfl, rfl⟩

theorem ticket_calls (a b : Int) (w : World) (b0 : 0 ≤ b) (b1 : b < 4294967296) :
    Calls Try.prog 14 #[.int .u64 (mk a b)] w fun e w' => e = .returned (.int .u32 b) ∧ w' = w := by
  have h : mk a b % 4294967296 = b := by unfold mk; omega
  refine (show Calls Try.prog 14 #[.int .u64 (mk a b)] w fun e w' => e = .returned (.int .u32 (mk a b % 4294967296)) ∧ w' = w from ?_).mono (by rw [h]; exact fun _ _ h => h)
  clear h b0 b1
  go_enter Try.func14, Try.ntmps14
  go_wp2
  go_ret
  exact ⟨rfl, rfl⟩

theorem lives_calls (w : World) : Calls Try.prog 15 #[] w fun e w' => e = .returned (.bool true) ∧ ∃ m, w' = w.drewN m := by
  refine (jostlelaw02_lives.calls true w lives_is).mono ?_
  rintro e w' ⟨rfl, ⟨m, rfl⟩⟩
  exact ⟨rfl, m, rfl⟩

/-- A quiet call behind draws that are already summed. -/
theorem more_quiet {P : Program} {f : FuncId} {args : Array Value} {w : World} {a n : Nat} {v : Value}
    (h : Calls P f args (w.drewN (a + n)) fun e w' => e = .returned v ∧ ∃ m, w' = (w.drewN (a + n)).drewN m) :
    Calls P f args (w.drewN (a + n)) fun e w'' => e = .returned v ∧ ∃ m, w'' = w.drewN (a + m) :=
  h.mono fun _ _ ⟨he, m, hm⟩ => ⟨he, n + m, by rw [hm, World.drewN_drewN, Nat.add_assoc]⟩

theorem more_same {P : Program} {f : FuncId} {args : Array Value} {w : World} {a n : Nat} {v : Value}
    (h : Calls P f args (w.drewN (a + n)) fun e w' => e = .returned v ∧ w' = w.drewN (a + n)) :
    Calls P f args (w.drewN (a + n)) fun e w'' => e = .returned v ∧ ∃ m, w'' = w.drewN (a + m) :=
  h.mono fun _ _ ⟨he, hm⟩ => ⟨he, n, hm⟩

/-- '==' of two arrays of two numbers. -/
@[local go_sem] theorem eq28 (a b c d : Int) (w : World) : (Op.equalIn 10000 28 (.agg #[.int .u32 a, .int .u32 b]) (.agg #[.int .u32 c, .int .u32 d])).run Try.prog w = .ok (a == c && b == d) w := by
  have u22 := Try.underlying22
  have a22 := Try.isAgg22
  have z22 := Try.sizeOf22
  rw [show (10000 : Nat) = 9999 + 1 from rfl, Op.equalIn]
  simp only [Sem.run_bind, run_underlying Try.underlying28, Result.andThen_ok]
  simp only [Std.Legacy.Range.forIn_eq_forIn_range', Std.Legacy.Range.size, Nat.sub_zero, Nat.add_sub_cancel, Nat.div_one, List.range'_succ, List.range'_zero, List.forIn_cons, List.forIn_nil]
  go_simp
  by_cases h1 : a = c <;> by_cases h2 : b = d <;> simp [h1, h2]

/-- What is known of four numbers of 32 bits. -/
structure Fits (a b c d : Int) : Prop where
  a : 0 ≤ a ∧ a < 4294967296
  b : 0 ≤ b ∧ b < 4294967296
  c : 0 ≤ c ∧ c < 4294967296
  d : 0 ≤ d ∧ d < 4294967296

set_option maxHeartbeats 1000000 in
set_option maxRecDepth 100000 in
theorem less (a b c d : Int) (w : World) (h : Fits a b c d) (k : a < c) :
    Calls Try.prog 4 #[.agg #[.int .u32 a, .int .u32 b], .agg #[.int .u32 c, .int .u32 d]] w fun e w' => e = .returned (.bool true) ∧ Below w.heap.size w w' := by
  have A := Aside0.mk h.a
  have B := Aside0.mk h.b
  have C := Aside0.mk h.c
  have D := Aside0.mk h.d
  have n0 : decide (a < c) = true := decide_eq_true k
  have n1 : (a == c) = false := by rw [beq_eq_false_iff_ne]; omega
  have n2 : decide (mk a b < mk c d) = true := by have := h.b; have := h.d; rw [decide_eq_true_eq]; unfold mk; omega
  have n3 : (mk a b == mk c d) = false := by have := of_decide_eq_true n2; rw [beq_eq_false_iff_ne]; omega
  clear h k
  go_enter Try.func4, Try.ntmps4
  go_wp2
  go_quiet ((go_at_call 12; first | with_reducible exact Calls.quiet_of_same (make_calls a b _ A.out.1 A.out.2 B.out.1 B.out.2) | with_reducible exact Calls.quiet_of_same (make_calls c d _ C.out.1 C.out.2 D.out.1 D.out.2)))
  go_wp2
  go_quiet (first | (go_at_call 13; exact more_same (key_calls a b _ A.out.1 A.out.2 B.out.1 B.out.2)) | (go_at_call 14; exact more_same (ticket_calls a b _ B.out.1 B.out.2)) | (go_at_call 15; exact more_quiet (lives_calls _)))
  go_wp2
  go_ret
  exact ⟨rfl, pw_below_drewN (pw_below_drewN (((Below.refl _ _).alloc (Nat.le_refl _) _).alloc (by simp) _) _) _⟩

set_option maxHeartbeats 1000000 in
set_option maxRecDepth 100000 in
theorem more (a b c d : Int) (w : World) (h : Fits a b c d) (k : c < a) :
    Calls Try.prog 4 #[.agg #[.int .u32 a, .int .u32 b], .agg #[.int .u32 c, .int .u32 d]] w fun e w' => e = .returned (.bool true) ∧ Below w.heap.size w w' := by
  have A := Aside0.mk h.a
  have B := Aside0.mk h.b
  have C := Aside0.mk h.c
  have D := Aside0.mk h.d
  have n0 : decide (a < c) = false := by rw [decide_eq_false_iff_not]; omega
  have n1 : (a == c) = false := by rw [beq_eq_false_iff_ne]; omega
  have n2 : decide (mk a b < mk c d) = false := by have := h.b; have := h.d; rw [decide_eq_false_iff_not]; unfold mk; omega
  have n3 : (mk a b == mk c d) = false := by have := h.b; have := h.d; rw [beq_eq_false_iff_ne]; unfold mk; omega
  clear h k
  go_enter Try.func4, Try.ntmps4
  go_wp2
  go_quiet ((go_at_call 12; first | with_reducible exact Calls.quiet_of_same (make_calls a b _ A.out.1 A.out.2 B.out.1 B.out.2) | with_reducible exact Calls.quiet_of_same (make_calls c d _ C.out.1 C.out.2 D.out.1 D.out.2)))
  go_wp2
  go_quiet (first | (go_at_call 13; exact more_same (key_calls a b _ A.out.1 A.out.2 B.out.1 B.out.2)) | (go_at_call 14; exact more_same (ticket_calls a b _ B.out.1 B.out.2)) | (go_at_call 15; exact more_quiet (lives_calls _)))
  go_wp2
  go_ret
  exact ⟨rfl, pw_below_drewN (pw_below_drewN (((Below.refl _ _).alloc (Nat.le_refl _) _).alloc (by simp) _) _) _⟩

set_option maxHeartbeats 1000000 in
set_option maxRecDepth 100000 in
theorem same_less (a b d : Int) (w : World) (h : Fits a b a d) (k : b < d) :
    Calls Try.prog 4 #[.agg #[.int .u32 a, .int .u32 b], .agg #[.int .u32 a, .int .u32 d]] w fun e w' => e = .returned (.bool true) ∧ Below w.heap.size w w' := by
  have A := Aside0.mk h.a
  have B := Aside0.mk h.b
  have C := Aside0.mk h.c
  have D := Aside0.mk h.d
  have n0 : decide (a < a) = false := by rw [decide_eq_false_iff_not]; omega
  have n4 : decide (b < d) = true := by rw [decide_eq_true_eq]; omega
  have n5 : (b == d) = false := by rw [beq_eq_false_iff_ne]; omega
  have n2 : decide (mk a b < mk a d) = true := by rw [decide_eq_true_eq]; unfold mk; omega
  have n3 : (mk a b == mk a d) = false := by rw [beq_eq_false_iff_ne]; unfold mk; omega
  clear h k
  go_enter Try.func4, Try.ntmps4
  go_wp2
  go_quiet ((go_at_call 12; first | with_reducible exact Calls.quiet_of_same (make_calls a b _ A.out.1 A.out.2 B.out.1 B.out.2) | with_reducible exact Calls.quiet_of_same (make_calls a d _ C.out.1 C.out.2 D.out.1 D.out.2)))
  go_wp2
  go_quiet (first | (go_at_call 13; exact more_same (key_calls a b _ A.out.1 A.out.2 B.out.1 B.out.2)) | (go_at_call 14; exact more_same (ticket_calls a b _ B.out.1 B.out.2)) | (go_at_call 15; exact more_quiet (lives_calls _)))
  go_wp2
  go_ret
  exact ⟨rfl, pw_below_drewN (pw_below_drewN (((Below.refl _ _).alloc (Nat.le_refl _) _).alloc (by simp) _) _) _⟩

set_option maxHeartbeats 1000000 in
set_option maxRecDepth 100000 in
theorem same_more (a b d : Int) (w : World) (h : Fits a b a d) (k : d < b) :
    Calls Try.prog 4 #[.agg #[.int .u32 a, .int .u32 b], .agg #[.int .u32 a, .int .u32 d]] w fun e w' => e = .returned (.bool true) ∧ Below w.heap.size w w' := by
  have A := Aside0.mk h.a
  have B := Aside0.mk h.b
  have C := Aside0.mk h.c
  have D := Aside0.mk h.d
  have n0 : decide (a < a) = false := by rw [decide_eq_false_iff_not]; omega
  have n4 : decide (b < d) = false := by rw [decide_eq_false_iff_not]; omega
  have n5 : (b == d) = false := by rw [beq_eq_false_iff_ne]; omega
  have n2 : decide (mk a b < mk a d) = false := by rw [decide_eq_false_iff_not]; unfold mk; omega
  have n3 : (mk a b == mk a d) = false := by rw [beq_eq_false_iff_ne]; unfold mk; omega
  clear h k
  go_enter Try.func4, Try.ntmps4
  go_wp2
  go_quiet ((go_at_call 12; first | with_reducible exact Calls.quiet_of_same (make_calls a b _ A.out.1 A.out.2 B.out.1 B.out.2) | with_reducible exact Calls.quiet_of_same (make_calls a d _ C.out.1 C.out.2 D.out.1 D.out.2)))
  go_wp2
  go_quiet (first | (go_at_call 13; exact more_same (key_calls a b _ A.out.1 A.out.2 B.out.1 B.out.2)) | (go_at_call 14; exact more_same (ticket_calls a b _ B.out.1 B.out.2)) | (go_at_call 15; exact more_quiet (lives_calls _)))
  go_wp2
  go_ret
  exact ⟨rfl, pw_below_drewN (pw_below_drewN (((Below.refl _ _).alloc (Nat.le_refl _) _).alloc (by simp) _) _) _⟩

set_option maxHeartbeats 1000000 in
set_option maxRecDepth 100000 in
theorem same (a b : Int) (w : World) (h : Fits a b a b) :
    Calls Try.prog 4 #[.agg #[.int .u32 a, .int .u32 b], .agg #[.int .u32 a, .int .u32 b]] w fun e w' => e = .returned (.bool true) ∧ Below w.heap.size w w' := by
  have A := Aside0.mk h.a
  have B := Aside0.mk h.b
  have C := Aside0.mk h.c
  have D := Aside0.mk h.d
  have n0 : decide (a < a) = false := by rw [decide_eq_false_iff_not]; omega
  have n4 : decide (b < b) = false := by rw [decide_eq_false_iff_not]; omega
  have n2 : decide (mk a b < mk a b) = false := by rw [decide_eq_false_iff_not]; omega
  clear h
  go_enter Try.func4, Try.ntmps4
  go_wp2
  go_quiet ((go_at_call 12; first | with_reducible exact Calls.quiet_of_same (make_calls a b _ A.out.1 A.out.2 B.out.1 B.out.2) | with_reducible exact Calls.quiet_of_same (make_calls a b _ C.out.1 C.out.2 D.out.1 D.out.2)))
  go_wp2
  go_quiet (first | (go_at_call 13; exact more_same (key_calls a b _ A.out.1 A.out.2 B.out.1 B.out.2)) | (go_at_call 14; exact more_same (ticket_calls a b _ B.out.1 B.out.2)) | (go_at_call 15; exact more_quiet (lives_calls _)))
  go_wp2
  go_ret
  exact ⟨rfl, pw_below_drewN (pw_below_drewN (((Below.refl _ _).alloc (Nat.le_refl _) _).alloc (by simp) _) _) _⟩

theorem walk (a b c d : Int) (w : World) (ha : (Lit.int .u32 a).wf = true) (hb : (Lit.int .u32 b).wf = true) (hc : (Lit.int .u32 c).wf = true) (hd : (Lit.int .u32 d).wf = true) :
    Calls Try.prog 4 #[.agg #[.int .u32 a, .int .u32 b], .agg #[.int .u32 c, .int .u32 d]] w fun e w' => e = .returned (.bool true) ∧ Below w.heap.size w w' := by
  have h : Fits a b c d := ⟨of_u32 ha, of_u32 hb, of_u32 hc, of_u32 hd⟩
  by_cases h1 : a < c
  · exact less a b c d w h h1
  by_cases h2 : c < a
  · exact more a b c d w h h2
  obtain rfl : a = c := by omega
  by_cases h3 : b < d
  · exact same_less a b d w h h3
  by_cases h4 : d < b
  · exact same_more a b d w h h4
  obtain rfl : b = d := by omega
  exact same a b w h

end Go.Proofs.Ytegpplokfjojbaa.OrdOrdersWalk
