/- The statement RunOther over lists and numbers: a procedure that there is not, other arguments, fuel beyond its limits are told so, and the memory is as it was. No further condition. -/
import Derived.Test.YtcjnhnnfoadklaaZROx17
namespace Go.Proofs.Ytcjnhnnfoadklaa.Pure
open Go.RowKit Go.Proofs.Ytcjnhnnfoadklaa.QRunOther Go.Proofs.YtcjnhnnfoadklaaW.PrintWords Go.Proofs.YtcjnhnnfoadklaaW.PrintLast
set_option linter.unusedVariables false
set_option linter.unusedSimpArgs false
abbrev Cell := S61
abbrev Mod := S39
theorem wf_u8 {x : Int} (h : (Lit.int .u8 x).wf = true) : 0 ≤ x ∧ x ≤ 255 := by
 simp only [Lit.wf, IntKind.min, IntKind.max, IntKind.signed, IntKind.bits, Bool.and_eq_true, decide_eq_true_eq] at h
 simpa using h
theorem w64 {n : Int} (h0 : -4503599627370496 ≤ n) (h1 : n ≤ 4503599627370496) : wrap64 n = n := by unfold wrap64; omega
def P1 := (ra_Parse.f 400 (⟨#[109, 111, 100, 117, 108, 101, 32, 109, 59, 32, 112, 114, 111, 99, 32, 112, 40, 120, 32, 58, 32, 97, 41, 32, 112, 99, 32, 97, 32, 117, 115, 101, 115, 32, 123, 125, 32, 123, 32, 125]⟩ : ByteArray)).getD ((⟨#[]⟩ : ByteArray), 0, [], [], [], 1, 0)
theorem parse1 : Ev (fun k => ra_Parse.f k (⟨#[109, 111, 100, 117, 108, 101, 32, 109, 59, 32, 112, 114, 111, 99, 32, 112, 40, 120, 32, 58, 32, 97, 41, 32, 112, 99, 32, 97, 32, 117, 115, 101, 115, 32, 123, 125, 32, 123, 32, 125]⟩ : ByteArray)) P1 := Ev.of (fun k => ra_Parse.mono (⟨#[109, 111, 100, 117, 108, 101, 32, 109, 59, 32, 112, 114, 111, 99, 32, 112, 40, 120, 32, 58, 32, 97, 41, 32, 112, 99, 32, 97, 32, 117, 115, 101, 115, 32, 123, 125, 32, 123, 32, 125]⟩ : ByteArray) k) (k := 400) (by kernel_rfl)
theorem p1e : P1.2.2.2.2.2.1 = 0 := by kernel_rfl
def L1 : List Mod := [⟨P1.1, P1.2.1, P1.2.2.1, P1.2.2.2.1, P1.2.2.2.2.1⟩]
theorem awaket : Ev (fun k => aquiferlaw22_awake.f k) true := Ev.of (fun k => aquiferlaw22_awake.mono k) (k := 400) (by kernel_rfl)
theorem clone (m : List Cell) (h : m.length ≤ 60) : api_Cell_27.f m = some m := by
 unfold api_Cell_27.f
 rw [if_pos (by omega)]
theorem run_none (k : Nat) (l : List Mod) (mod proc : ByteArray) (args : List Int) (m : List Cell) (fuel : Int) (hm : m.length ≤ 60) (h : (run_Run.find l mod proc (args.length : Int)).2 = false ∨ fuel < 0 ∨ 20000 < fuel) : run_Run.f k l mod proc args m fuel = some (3, m, 0, [], 0) := by
 unfold run_Run.f
 rw [clone m hm]
 by_cases h0 : (run_Run.find l mod proc (args.length : Int)).2 = false
 ·
  rw [if_pos h0]
  rfl
 ·
  rw [if_neg h0]
  by_cases h1 : fuel < 0
  ·
   rw [if_pos h1]
   rfl
  ·
   rw [if_neg h1, if_pos (by rcases h with h | h | h; exact absurd h h0; exact absurd h h1; exact h)]
   rfl
theorem find_q : (run_Run.find L1 (⟨#[109]⟩ : ByteArray) (⟨#[113]⟩ : ByteArray) 1).2 = false := by kernel_rfl
theorem find_n : (run_Run.find L1 (⟨#[110]⟩ : ByteArray) (⟨#[112]⟩ : ByteArray) 1).2 = false := by kernel_rfl
theorem find_p (n : Int) : (run_Run.find L1 (⟨#[109]⟩ : ByteArray) (⟨#[112]⟩ : ByteArray) n).2 = if 1 = n then true else false := by
 have e : run_Run.find L1 (⟨#[109]⟩ : ByteArray) (⟨#[112]⟩ : ByteArray) n = if 1 = n then ((run_Run.find L1 (⟨#[109]⟩ : ByteArray) (⟨#[112]⟩ : ByteArray) 1).1, true) else (z44, false) := by kernel_rfl
 rw [e]
 split <;> rfl
theorem run_zero (k : Nat) (m : List Cell) (hm : m.length ≤ 60) : run_Run.f k L1 (⟨#[109]⟩ : ByteArray) (⟨#[112]⟩ : ByteArray) [1] m 0 = some (1, m, 0, [], 0) := by
 unfold run_Run.f
 rw [clone m hm]
 kernel_rfl
theorem cells_loop (m : List Cell) (hm : m.length ≤ 60) : ∀ d i : Nat, i + d = m.length → Ev (fun k => rb_Cells.l0 k m m (i : Int)) true := by
 intro d
 induction d with
 | zero =>
  intro i hi
  refine Ev.step (f := fun _ => some true) (fun k => ?_) (Ev.now true)
  simp only [rb_Cells.l0]
  rw [if_neg (by omega)]
 | succ d ih =>
  intro i hi
  refine Ev.step (fun k => ?_) (ih (i + 1) (by omega))
  simp only [rb_Cells.l0]
  rw [if_pos (by omega), if_pos (by omega), if_pos (by omega), if_neg (by simp), w64 (by omega) (by omega)]
  rfl
theorem cells_ev (m : List Cell) (hm : m.length ≤ 60) : Ev (fun k => rb_Cells.f k m m) true := by
 refine Ev.congr (fun k => ?_) (cells_loop m hm m.length 0 (by omega))
 unfold rb_Cells.f
 rw [if_pos rfl]
 rfl
theorem same_ev (m : List Cell) (hm : m.length ≤ 60) : Ev (fun k => rb_Same.f k 3 m 0 [] 0 3 m 0 [] 0) true := by
 have hj : Ev (fun k => rb_Same.j0 k (0 != 0 : Bool) 3 m 0 [] 0 3 m 0 [] 0) true := by
  refine Ev.step (fun k => ?_) (Ev.step (g := fun k => rb_Same.l0 k 0 3 m 0 [] 0 3 m 0 [] 0) (f := fun _ => some true) (fun k => ?_) (Ev.now true))
  ·
   simp only [rb_Same.j0]
   rw [if_neg (by decide)]
  ·
   simp only [rb_Same.l0]
   rw [if_neg (by simp)]
 obtain ⟨K1, h1⟩ := cells_ev m hm
 obtain ⟨K2, h2⟩ := hj
 replace h1 : ∀ k, K1 ≤ k → rb_Cells.f k m m = some true := h1
 refine ⟨max K1 K2, fun k hk => ?_⟩
 show rb_Same.f k 3 m 0 [] 0 3 m 0 [] 0 = some true
 unfold rb_Same.f
 rw [if_pos rfl, h1 k (by omega), Option.bind_some, if_pos rfl, if_pos rfl, if_pos rfl]
 exact h2 k (by omega)
theorem RunOther : aquiferlaw22_RunOther.Pure := by
 intro m a1 a2 _ ha _
 obtain ⟨a0, a255⟩ := wf_u8 ha
 obtain ⟨K4, h4⟩ := awaket
 replace h4 : ∀ k, K4 ≤ k → aquiferlaw22_awake.f k = some true := h4
 by_cases hm : (m.length : Int) > 60
 ·
  refine ⟨K4, ?_⟩
  unfold aquiferlaw22_RunOther.f
  rw [if_pos hm, h4 K4 (Nat.le_refl _)]
  rfl
 have hm60 : m.length ≤ 60 := by omega
 obtain ⟨K1, h1⟩ := parse1
 replace h1 : ∀ k, K1 ≤ k → ra_Parse.f k (⟨#[109, 111, 100, 117, 108, 101, 32, 109, 59, 32, 112, 114, 111, 99, 32, 112, 40, 120, 32, 58, 32, 97, 41, 32, 112, 99, 32, 97, 32, 117, 115, 101, 115, 32, 123, 125, 32, 123, 32, 125]⟩ : ByteArray) = some P1 := h1
 obtain ⟨K2, h2⟩ := same_ev m hm60
 obtain ⟨K3, h3⟩ := cells_ev m hm60
 have hn : wrap64 (2 + Int.tmod (wrap64 a1) 9) = 2 + a1.tmod 9 := by
  rw [w64 (n := a1) (by omega) (by omega)]
  have h5 := Int.tmod_lt_of_pos a1 (b := 9) (by omega)
  have h6 := Int.tmod_nonneg (a := a1) 9 (by omega)
  exact w64 (by omega) (by omega)
 have h5 := Int.tmod_lt_of_pos a1 (b := 9) (by omega)
 have h6 := Int.tmod_nonneg (a := a1) 9 (by omega)
 generalize hr : 2 + a1.tmod 9 = n at *
 have n0 : 2 ≤ n := by omega
 have n1 : n ≤ 10 := by omega
 obtain ⟨k, hk1, hk2, hk3, hk4⟩ : ∃ k, K1 ≤ k ∧ K2 ≤ k ∧ K3 ≤ k ∧ K4 ≤ k := ⟨max (max K1 K2) (max K3 K4), by omega, by omega, by omega, by omega⟩
 refine ⟨k, ?_⟩
 have r1 := run_none k L1 (⟨#[109]⟩ : ByteArray) (⟨#[113]⟩ : ByteArray) [1] m 9 hm60 (.inl find_q)
 have r2 := run_none k L1 (⟨#[110]⟩ : ByteArray) (⟨#[112]⟩ : ByteArray) [1] m 9 hm60 (.inl find_n)
 have r3 := run_none k L1 (⟨#[109]⟩ : ByteArray) (⟨#[112]⟩ : ByteArray) (List.replicate (n : Int).toNat 0) m 9 hm60 (.inl (by rw [find_p, if_neg (by rw [List.length_replicate]; omega)]))
 have r4 := run_none k L1 (⟨#[109]⟩ : ByteArray) (⟨#[112]⟩ : ByteArray) [1] m 20001 hm60 (.inr (.inr (by omega)))
 have r5 := run_none k L1 (⟨#[109]⟩ : ByteArray) (⟨#[112]⟩ : ByteArray) [1] m (-1) hm60 (.inr (.inl (by omega)))
 have r6 := run_zero k m hm60
 have s := h2 k hk2
 have c := h3 k hk3
 have w := h4 k hk4
 dsimp only at s c w
 unfold aquiferlaw22_RunOther.f
 rw [if_neg hm, h1 k hk1, Option.bind_some, Option.bind_some]
 change (run_Run.f k L1 _ _ _ m 9).bind _ = _
 rw [r1, Option.bind_some]
 change (run_Run.f k L1 _ _ _ m 9).bind _ = _
 rw [r2, Option.bind_some, hn, if_pos (by omega), if_pos (by omega)]
 change (run_Run.f k L1 _ _ _ m 9).bind _ = _
 rw [r3, Option.bind_some]
 change (run_Run.f k L1 _ _ _ m 20001).bind _ = _
 rw [r4, Option.bind_some]
 change (run_Run.f k L1 _ _ _ m (-1)).bind _ = _
 rw [r5, Option.bind_some]
 change (run_Run.f k L1 _ _ _ m 0).bind _ = _
 rw [r6, Option.bind_some, if_pos p1e, s, Option.bind_some, if_pos rfl, Option.bind_some, if_pos rfl, Option.bind_some, if_pos rfl, Option.bind_some, if_pos rfl, Option.bind_some, if_pos rfl, if_pos rfl, c, Option.bind_some, if_pos rfl, w]
 rfl
end Go.Proofs.Ytcjnhnnfoadklaa.Pure
