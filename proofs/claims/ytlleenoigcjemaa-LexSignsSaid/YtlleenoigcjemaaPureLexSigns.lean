/- The statement LexSigns over numbers: every sign of two bytes is read whole, apart it is two or none, and no byte above 127 is a sign. Run on all its cases by the kernel. No further condition. -/
import Derived.Test.YtlleenoigcjemaaQLexSignsx3
import Derived.Test.YtlleenoigcjemaaNum
namespace Go.Proofs.Ytlleenoigcjemaa.Pure
open Go.RowKit Go.Proofs.Ytlleenoigcjemaa.QLexSigns Go.Proofs.Ytlleenoigcjemaa.Num Go.Proofs.YtlleenoigcjemaaW.PrintWords Go.Proofs.YtlleenoigcjemaaW.PrintLast
namespace LexP
theorem runs0 : ∀ y < 128, aquiferlaw11_LexSigns.f 60 ((0 : Nat) : Int) ((128 + y : Nat) : Int) = some true := by decide +kernel
theorem runs1 : ∀ y < 128, aquiferlaw11_LexSigns.f 60 ((1 : Nat) : Int) ((128 + y : Nat) : Int) = some true := by decide +kernel
theorem runs2 : ∀ y < 128, aquiferlaw11_LexSigns.f 60 ((2 : Nat) : Int) ((128 + y : Nat) : Int) = some true := by decide +kernel
theorem upper : ∀ n < 256, Go.bits .or .u8 ((n : Nat) : Int) 128 = Go.bits .or .u8 ((128 + n % 128 : Nat) : Int) 128 := by decide +kernel
end LexP
open LexP in
theorem LexSigns : aquiferlaw11_LexSigns.Pure := by
  intro a0 a1 h0 h1
  have r0 := wf_u8 h0
  have r1 := wf_u8 h1
  have hw : Int.tmod a0 3 = (((a0 % 3).toNat : Nat) : Int) := by rw [Int.tmod_eq_emod_of_nonneg r0.1]; omega
  have hn : Int.tmod (((a0 % 3).toNat : Nat) : Int) 3 = (((a0 % 3).toNat : Nat) : Int) := by rw [Int.tmod_eq_emod_of_nonneg (by omega)]; omega
  have hy := upper a1.toNat (by omega)
  rw [Int.toNat_of_nonneg r1.1] at hy
  refine ⟨60, ?_⟩
  have e : aquiferlaw11_LexSigns.f 60 a0 a1 = aquiferlaw11_LexSigns.f 60 (((a0 % 3).toNat : Nat) : Int) ((128 + a1.toNat % 128 : Nat) : Int) := by
    unfold aquiferlaw11_LexSigns.f
    rw [hw, hn, hy]
  rw [e]
  have hm : a1.toNat % 128 < 128 := Nat.mod_lt _ (by decide)
  have h3 : (a0 % 3).toNat = 0 ∨ (a0 % 3).toNat = 1 ∨ (a0 % 3).toNat = 2 := by omega
  rcases h3 with h | h | h <;> rw [h]
  · exact runs0 _ hm
  · exact runs1 _ hm
  · exact runs2 _ hm
end Go.Proofs.Ytlleenoigcjemaa.Pure
