/- OrdParts holds: for every key and ticket (uint32) and every number (uint64) the order number is key times 2^32 plus ticket, and the parts of the number are its quotient and its rest by 2^32; there is no condition. -/
import Derived.Test.YtegpplokfjojbaaPOrdPartsx1
import Derived.Laws.Bits64
namespace Go.Proofs.Ytegpplokfjojbaa.Pure
open Go.RowKit Go.Proofs.Ytegpplokfjojbaa.POrdParts Go.Proofs.YtegpplokfjojbaaW.PrintWords Go.Proofs.YtegpplokfjojbaaW.PrintLast
namespace OrdPartsAid

theorem of_u32 {x : Int} (h : (Lit.int .u32 x).wf = true) : 0 ≤ x ∧ x < 4294967296 := by
  simp [Lit.wf, IntKind.min, IntKind.max, IntKind.bits, IntKind.signed] at h
  omega

theorem of_u64 {x : Int} (h : (Lit.int .u64 x).wf = true) : 0 ≤ x ∧ x < 18446744073709551616 := by
  simp [Lit.wf, IntKind.min, IntKind.max, IntKind.bits, IntKind.signed] at h
  omega

theorem wraps (n : Int) (h0 : 0 ≤ n) (h1 : n < 2 ^ 64) : IntKind.u64.wrap n = n := by
  rw [IntKind.wrap_u64]
  omega

theorem make_is (a b : Int) (a0 : 0 ≤ a) (a1 : a < 4294967296) (b0 : 0 ≤ b) (b1 : b < 4294967296) :
    ord_Make.f a b = some (a * 4294967296 + b) := by
  unfold ord_Make.f
  rw [wraps a a0 (by omega), wraps b b0 (by omega), wraps (a * 4294967296) (by omega) (by omega)]
  rw [bits_join .u64 64 (by decide) wraps 32 _ _ (by omega) (by omega) (by omega) b0 (by omega) (by omega)]

theorem lives_is : jostlelaw02_lives.f = some true := by decide +kernel

end OrdPartsAid
open OrdPartsAid

theorem OrdParts : jostlelaw02_OrdParts.Pure := by
  intro a b n ha hb hn
  obtain ⟨a0, a1⟩ := of_u32 ha
  obtain ⟨b0, b1⟩ := of_u32 hb
  obtain ⟨n0, n1⟩ := of_u64 hn
  unfold jostlelaw02_OrdParts.f ord_Key.f ord_Ticket.f
  rw [make_is a b a0 a1 b0 b1]
  simp only [Option.bind_some, lives_is]
  rw [Int.tdiv_eq_ediv_of_nonneg n0, Int.tmod_eq_emod_of_nonneg n0]
  rw [wraps a a0 (by omega), wraps b b0 (by omega), wraps (a * 4294967296) (by omega) (by omega), wraps (a * 4294967296 + b) (by omega) (by omega)]
  rw [wraps (n / 4294967296 % 4294967296) (by omega) (by omega), wraps (n / 4294967296) (by omega) (by omega), wraps (n % 4294967296) (by omega) (by omega)]
  rw [if_pos rfl, if_pos (by omega), if_pos rfl]

end Go.Proofs.Ytegpplokfjojbaa.Pure
