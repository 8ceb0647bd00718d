/- The walk of OrdVals: for every value (uint32), mark and word (uint64) the law returns true and what stood in memory stays as it was; there is no condition. -/
import Derived.Test.YtegpplokfjojbaaPOrdPartsx1
import Derived.Laws.Bits64
namespace Go.Proofs.Ytegpplokfjojbaa.OrdValsWalk
open Go.RowKit Go.Proofs.Ytegpplokfjojbaa.POrdParts Go.Proofs.YtegpplokfjojbaaW.PrintWords Go.Proofs.YtegpplokfjojbaaW.PrintLast Go.Proofs.YtegpplokfjojbaaW.PrintMore

theorem of_u32 {x : Int} (h : (Lit.int .u32 x).wf = true) : 0 ≤ x ∧ x < 4294967296 := by
  simp [Lit.wf, IntKind.min, IntKind.max, IntKind.bits, IntKind.signed] at h
  omega

theorem of_u64 {x : Int} (h : (Lit.int .u64 x).wf = true) : 0 ≤ x ∧ x < 18446744073709551616 := by
  simp [Lit.wf, IntKind.min, IntKind.max, IntKind.bits, IntKind.signed] at h
  omega

theorem wraps (n : Int) (h0 : 0 ≤ n) (h1 : n < 2 ^ 64) : IntKind.u64.wrap n = n := by
  rw [IntKind.wrap_u64]
  omega

theorem or_one_even (x : Int) (h0 : 0 ≤ x) (h1 : x < 18446744073709551616) (he : x % 2 = 0) : Go.bits .or .u64 x 1 = x + 1 :=
  bits_join .u64 64 (by decide) wraps 1 x 1 h0 (by omega) (by omega) (by decide) (by decide) (by decide)

theorem or_one_odd (x : Int) (h0 : 0 ≤ x) (h1 : x < 18446744073709551616) (he : x % 2 = 1) : Go.bits .or .u64 x 1 = x := by
  have h := or_one_even (x - 1) (by omega) (by omega) (by omega)
  obtain ⟨a, ha⟩ := Int.eq_ofNat_of_zero_le (show 0 ≤ x - 1 by omega)
  have hn := (bits_nat .u64 64 (by decide) wraps a 1 (by omega) (by decide)).2
  rw [ha] at h
  have e : ((a ||| 1 : Nat) : Int) = x := by
    have : Go.bits .or .u64 (a : Int) 1 = ((a ||| 1 : Nat) : Int) := hn
    omega
  have hx : x = ((a ||| 1 : Nat) : Int) := e.symm
  rw [hx]
  have hb : a ||| 1 < 2 ^ 64 := by omega
  have h2 := (bits_nat .u64 64 (by decide) wraps (a ||| 1) 1 hb (by decide)).2
  have h3 : Go.bits .or .u64 ((a ||| 1 : Nat) : Int) 1 = (((a ||| 1) ||| 1 : Nat) : Int) := h2
  rw [h3, Nat.or_assoc, Nat.or_self]

theorem and_one (x : Int) (h0 : 0 ≤ x) (h1 : x < 18446744073709551616) : Go.bits .and .u64 x 1 = x % 2 :=
  bits_mask .u64 64 (by decide) wraps 1 (by decide) x h0 (by omega)

theorem lives_is : jostlelaw02_lives.f = some true := by decide +kernel

/-- A word, buried. -/
def buried (w : Int) : Int := w + 1 - w % 2
theorem bury_is (w : Int) (w0 : 0 ≤ w) (w1 : w < 18446744073709551616) : Go.bits .or .u64 w 1 = buried w := by
  unfold buried
  by_cases he : w % 2 = 0
  · rw [or_one_even w w0 w1 he]; omega
  · rw [or_one_odd w w0 w1 (by omega)]; omega

/-- The value word. -/
def packed (a : Int) (g : Bool) : Int := if g = true then 2 * a + 1 else 2 * a
theorem pack_is (a : Int) (g : Bool) (a0 : 0 ≤ a) (a1 : a < 4294967296) : ord_Pack.f a g = some (packed a g) := by
  unfold ord_Pack.f packed
  rw [wraps a a0 (by omega), wraps (a * 2) (by omega) (by omega), or_one_even (a * 2) (by omega) (by omega) (by omega)]
  cases g
  · simp; omega
  · simp; omega

/-- A word's value. -/
def valued (w : Int) : Int := w / 2 % 4294967296
theorem valued_buried (w : Int) : valued (buried w) = valued w := by
  unfold valued buried
  rw [show (w + 1 - w % 2) / 2 = w / 2 by omega]

/-- Whether a word is odd. -/
def odd (w : Int) : Bool := w % 2 == 1
theorem odd_buried (w : Int) : odd (buried w) = true := by
  unfold odd buried
  rw [beq_iff_eq]
  omega

theorem bury_calls (a : Int) (w : World) (h0 : 0 ≤ a) (h1 : a < 18446744073709551616) :
    Calls Try.prog 16 #[.int .u64 a] w fun e w' => e = .returned (.int .u64 (buried a)) ∧ Drawn0 w w' := by
  rw [← bury_is a h0 h1]
  go_enter Try.func16, Try.ntmps16
  go_wp2
  go_ret
  exact ⟨rfl, Drawn0.refl _⟩

theorem val_calls (a : Int) (w : World) :
    Calls Try.prog 18 #[.int .u64 a] w fun e w' => e = .returned (.int .u32 (valued a)) ∧ Drawn0 w w' := by
  unfold valued
  go_enter Try.func18, Try.ntmps18
  go_wp2
  go_ret
  exact ⟨rfl, Drawn0.refl _⟩

theorem gone_calls (a : Int) (w : World) (h0 : 0 ≤ a) (h1 : a < 18446744073709551616) :
    Calls Try.prog 19 #[.int .u64 a] w fun e w' => e = .returned (.bool (odd a)) ∧ Drawn0 w w' := by
  unfold odd
  rw [← and_one a h0 h1]
  go_enter Try.func19, Try.ntmps19
  go_wp2
  go_ret
  exact ⟨rfl, Drawn0.refl _⟩

theorem law_calls (a : Int) (g : Bool) (n : Int) (w : World) (ha : (Lit.int .u32 a).wf = true) (hn : (Lit.int .u64 n).wf = true) :
    Calls Try.prog 5 #[.int .u32 a, .bool g, .int .u64 n] w fun e w' => e = .returned (.bool true) ∧ Drawn0 w w' := by
  obtain ⟨a0, a1⟩ := of_u32 ha
  obtain ⟨n0, n1⟩ := of_u64 hn
  have hp := Aside0.mk (pack_is a g a0 a1)
  have hl := Aside0.mk lives_is
  have hb0 : 0 ≤ buried n := by unfold buried; omega
  have hb1 : buried n < 18446744073709551616 := by unfold buried; omega
  have hg : odd n = (Int.tmod n 2 == 1) := by unfold odd; rw [Int.tmod_eq_emod_of_nonneg n0]
  have hob := Aside0.mk (odd_buried n)
  have hvb := Aside0.mk (valued_buried n)
  have hw : IntKind.u64.wrap (valued n) = Int.tmod (IntKind.u64.wrap (Int.tdiv n 2)) 4294967296 := by
    unfold valued
    rw [Int.tdiv_eq_ediv_of_nonneg n0, wraps (n / 2) (by omega) (by omega), Int.tmod_eq_emod_of_nonneg (by omega), wraps _ (by omega) (by omega)]
  have c1 : (IntKind.u64.wrap (valued n) == Int.tmod (IntKind.u64.wrap (Int.tdiv n 2)) 4294967296) = true := beq_iff_eq.mpr hw
  have c2 : (IntKind.u64.wrap (valued n) != Int.tmod (IntKind.u64.wrap (Int.tdiv n 2)) 4294967296) = false := bne_eq_false_iff_eq.mpr hw
  have c3 : (odd n == (Int.tmod n 2 == 1)) = true := by rw [hg]; exact beq_self_eq_true _
  have c4 : decide (odd n = (Int.tmod n 2 == 1)) = true := by rw [hg]; simp
  have c5 : decide (IntKind.u64.wrap (buried n - n) ≤ 1) = true := by
    rw [decide_eq_true_eq, wraps _ (by unfold buried; omega) (by unfold buried; omega)]
    unfold buried
    omega
  have hx : Aside0 (packed a g = if g = true then IntKind.u64.wrap (IntKind.u64.wrap (2 * IntKind.u64.wrap a) + 1) else IntKind.u64.wrap (2 * IntKind.u64.wrap a)) := by
    refine ⟨?_⟩
    unfold packed
    rw [wraps a a0 (by omega), wraps (2 * a) (by omega) (by omega), wraps (2 * a + 1) (by omega) (by omega)]
  have HN0 := Aside0.mk n0
  have HN1 := Aside0.mk n1
  have HB0 := Aside0.mk hb0
  have HB1 := Aside0.mk hb1
  clear hw hg ha hn a0 a1 n0 n1 hb0 hb1
  go_enter Try.func5, Try.ntmps5
  go_upto_if 12 with (fail)
  go_cut [7] (fun v7 wc => v7 = .int .u64 (packed a g) ∧ Drawn0 w wc)
  case first =>
    clear c1 c2 c3 c4 c5
    cases g
    · go_wp2
      go_meet
      case rel => exact ⟨by rw [hx.out]; rfl, by repeat (first | exact Drawn0.refl _ | apply Drawn0.step)⟩
    · go_wp2
      go_meet
      case rel => exact ⟨by rw [hx.out]; rfl, by repeat (first | exact Drawn0.refl _ | apply Drawn0.step)⟩
  case rest =>
    obtain ⟨rfl, ⟨m, rfl⟩⟩ := hcut
    go_wp2_with (first | ((with_reducible refine gate_callee (f := 16) rfl ?_); refine goesL_ (some 16) rfl rfl Try.func16 (by kernel_rfl) rfl #[.int .u64 n] rfl (by (try simp only [List.map_toArray, List.map_cons, List.map_nil]); first | done | rfl | (simp only [List.length_drop, List.length_take]; rfl)) ?_; (with_reducible refine (bury_calls n _ HN0.out HN1.out).mono ?_); rintro e w' ⟨rfl, ⟨nd, rfl⟩⟩; refine ⟨_, rfl, ?_⟩) | ((with_reducible refine gate_callee (f := 17) rfl ?_); refine goesL_ (some 19) rfl rfl Try.func17 (by kernel_rfl) rfl #[.int .u32 a, .bool g] rfl (by (try simp only [List.map_toArray, List.map_cons, List.map_nil]); first | done | rfl | (simp only [List.length_drop, List.length_take]; rfl)) ?_; (with_reducible refine (ord_Pack.calls a g (packed a g) _ hp.out).mono ?_); rintro e w' ⟨rfl, ⟨nd, rfl⟩⟩; refine ⟨_, rfl, ?_⟩) | (go_at_call 18; (with_reducible refine (val_calls n _).mono ?_); rintro e w' ⟨rfl, ⟨nd, rfl⟩⟩) | (go_at_call 19; (with_reducible refine (gone_calls n _ HN0.out HN1.out).mono ?_); rintro e w' ⟨rfl, ⟨nd, rfl⟩⟩) | (go_at_call 19; (with_reducible refine (gone_calls (buried n) _ HB0.out HB1.out).mono ?_); rintro e w' ⟨rfl, ⟨nd, rfl⟩⟩; rw [hob.out]) | (go_at_call 18; (with_reducible refine (val_calls (buried n) _).mono ?_); rintro e w' ⟨rfl, ⟨nd, rfl⟩⟩; rw [hvb.out]) | (go_at_call 15; (with_reducible refine (jostlelaw02_lives.calls true _ hl.out).mono ?_); rintro e w' ⟨rfl, ⟨nd, rfl⟩⟩))
    go_ret
    exact ⟨rfl, by repeat (first | exact Drawn0.refl _ | apply Drawn0.step)⟩

theorem walk (a : Int) (g : Bool) (n : Int) (w : World) (ha : (Lit.int .u32 a).wf = true) (hn : (Lit.int .u64 n).wf = true) :
    Calls Try.prog 5 #[.int .u32 a, .bool g, .int .u64 n] w fun e w' => e = .returned (.bool true) ∧ Below w.heap.size w w' := by
  refine (law_calls a g n w ha hn).mono ?_
  rintro e w' ⟨rfl, hd⟩
  exact ⟨rfl, hd.below⟩

end Go.Proofs.Ytegpplokfjojbaa.OrdValsWalk
