/- The statement RunCalls over numbers: a procedure that calls itself has locals of its own each time; what it tells comes back. No further condition. -/
import Derived.Test.YtcjnhnnfoadklaaZRLx15
namespace Go.Proofs.Ytcjnhnnfoadklaa.Pure
open Go.RowKit Go.Proofs.Ytcjnhnnfoadklaa.QRunCalls Go.Proofs.YtcjnhnnfoadklaaW.PrintWords Go.Proofs.YtcjnhnnfoadklaaW.PrintLast
set_option linter.unusedVariables false
set_option linter.unusedSimpArgs false
set_option maxRecDepth 100000
abbrev Mod := S39
abbrev PT := ByteArray × Int × (List S116) × (List S64) × (List S44) × Int × Int
theorem w64 {n : Int} (h0 : -4503599627370496 ≤ n) (h1 : n ≤ 4503599627370496) : wrap64 n = n := by unfold wrap64; omega
abbrev nm : ByteArray := (⟨#[109]⟩ : ByteArray)
abbrev nf : ByteArray := (⟨#[102]⟩ : ByteArray)
abbrev nq : ByteArray := (⟨#[113]⟩ : ByteArray)
abbrev nh : ByteArray := (⟨#[104]⟩ : ByteArray)
abbrev TA : ByteArray := (⟨#[109, 111, 100, 117, 108, 101, 32, 109, 59, 32, 105, 109, 112, 111, 114, 116, 32, 111, 59, 32, 112, 114, 111, 99, 32, 102, 40, 110, 32, 58, 32, 97, 41, 32, 45, 62, 32, 97, 32, 112, 99, 32, 97, 32, 117, 115, 101, 115, 32, 123, 125, 32, 123, 32, 108, 101, 116, 32, 107, 32, 58, 32, 97, 32, 61, 32, 110, 59, 32, 105, 102, 32, 110, 32, 123, 32, 99, 97, 108, 108, 32, 107, 32, 61, 32, 102, 40, 110, 32, 45, 32, 49, 41, 59, 32, 110, 32, 61, 32, 57, 57, 59, 32, 125, 32, 114, 101, 115, 117, 108, 116, 32, 61, 32, 107, 32, 43, 32, 49, 59, 32, 125]⟩ : ByteArray)
def mkA : PT := ((⟨#[109]⟩ : ByteArray), 7, [⟨(⟨#[111]⟩ : ByteArray), 17⟩], [], [⟨(⟨#[102]⟩ : ByteArray), [⟨(⟨#[110]⟩ : ByteArray), (⟨#[97]⟩ : ByteArray), 27⟩], true, (⟨#[97]⟩ : ByteArray), (⟨#[97]⟩ : ByteArray), [], [⟨1, 54, (⟨#[]⟩ : ByteArray), (⟨#[107]⟩ : ByteArray), (⟨#[97]⟩ : ByteArray), false, (⟨#[]⟩ : ByteArray), (⟨#[]⟩ : ByteArray), [⟨2, 0, (⟨#[]⟩ : ByteArray), (⟨#[110]⟩ : ByteArray), (-1), (-1), 66⟩], [], [], []⟩, ⟨5, 69, (⟨#[]⟩ : ByteArray), (⟨#[]⟩ : ByteArray), (⟨#[]⟩ : ByteArray), false, (⟨#[]⟩ : ByteArray), (⟨#[]⟩ : ByteArray), [⟨2, 0, (⟨#[]⟩ : ByteArray), (⟨#[110]⟩ : ByteArray), (-1), (-1), 72⟩], [], [⟨4, 76, (⟨#[]⟩ : ByteArray), (⟨#[107]⟩ : ByteArray), (⟨#[]⟩ : ByteArray), true, (⟨#[]⟩ : ByteArray), (⟨#[102]⟩ : ByteArray), [], [[⟨2, 0, (⟨#[]⟩ : ByteArray), (⟨#[110]⟩ : ByteArray), (-1), (-1), 87⟩, ⟨1, 1, (⟨#[]⟩ : ByteArray), (⟨#[]⟩ : ByteArray), (-1), (-1), 91⟩, ⟨6, 0, (⟨#[]⟩ : ByteArray), (⟨#[]⟩ : ByteArray), 0, 1, 89⟩]], [], []⟩, ⟨2, 95, (⟨#[]⟩ : ByteArray), (⟨#[110]⟩ : ByteArray), (⟨#[]⟩ : ByteArray), false, (⟨#[]⟩ : ByteArray), (⟨#[]⟩ : ByteArray), [⟨1, 99, (⟨#[]⟩ : ByteArray), (⟨#[]⟩ : ByteArray), (-1), (-1), 99⟩], [], [], []⟩], []⟩, ⟨3, 105, (⟨#[]⟩ : ByteArray), (⟨#[]⟩ : ByteArray), (⟨#[]⟩ : ByteArray), false, (⟨#[]⟩ : ByteArray), (⟨#[]⟩ : ByteArray), [⟨2, 0, (⟨#[]⟩ : ByteArray), (⟨#[107]⟩ : ByteArray), (-1), (-1), 114⟩, ⟨1, 1, (⟨#[]⟩ : ByteArray), (⟨#[]⟩ : ByteArray), (-1), (-1), 118⟩, ⟨5, 0, (⟨#[]⟩ : ByteArray), (⟨#[]⟩ : ByteArray), 0, 1, 116⟩], [], [], []⟩], 25⟩], 0, 0)
theorem parseA : Ev (fun n => ra_Parse.f n TA) mkA := Ev.of (fun n => ra_Parse.mono _ n) (k := 900) (by kernel_rfl)
abbrev TB : ByteArray := (⟨#[109, 111, 100, 117, 108, 101, 32, 111, 59, 32, 112, 114, 111, 99, 32, 103, 40, 120, 32, 58, 32, 97, 44, 32, 121, 32, 58, 32, 97, 41, 32, 45, 62, 32, 97, 32, 112, 99, 32, 97, 32, 117, 115, 101, 115, 32, 123, 125, 32, 123, 32, 120, 32, 61, 32, 120, 32, 42, 32, 49, 48, 59, 32, 114, 101, 115, 117, 108, 116, 32, 61, 32, 120, 32, 43, 32, 121, 59, 32, 125]⟩ : ByteArray)
def mkB : PT := ((⟨#[111]⟩ : ByteArray), 7, [], [], [⟨(⟨#[103]⟩ : ByteArray), [⟨(⟨#[120]⟩ : ByteArray), (⟨#[97]⟩ : ByteArray), 17⟩, ⟨(⟨#[121]⟩ : ByteArray), (⟨#[97]⟩ : ByteArray), 24⟩], true, (⟨#[97]⟩ : ByteArray), (⟨#[97]⟩ : ByteArray), [], [⟨2, 51, (⟨#[]⟩ : ByteArray), (⟨#[120]⟩ : ByteArray), (⟨#[]⟩ : ByteArray), false, (⟨#[]⟩ : ByteArray), (⟨#[]⟩ : ByteArray), [⟨2, 0, (⟨#[]⟩ : ByteArray), (⟨#[120]⟩ : ByteArray), (-1), (-1), 55⟩, ⟨1, 10, (⟨#[]⟩ : ByteArray), (⟨#[]⟩ : ByteArray), (-1), (-1), 59⟩, ⟨7, 0, (⟨#[]⟩ : ByteArray), (⟨#[]⟩ : ByteArray), 0, 1, 57⟩], [], [], []⟩, ⟨3, 63, (⟨#[]⟩ : ByteArray), (⟨#[]⟩ : ByteArray), (⟨#[]⟩ : ByteArray), false, (⟨#[]⟩ : ByteArray), (⟨#[]⟩ : ByteArray), [⟨2, 0, (⟨#[]⟩ : ByteArray), (⟨#[120]⟩ : ByteArray), (-1), (-1), 72⟩, ⟨2, 0, (⟨#[]⟩ : ByteArray), (⟨#[121]⟩ : ByteArray), (-1), (-1), 76⟩, ⟨5, 0, (⟨#[]⟩ : ByteArray), (⟨#[]⟩ : ByteArray), 0, 1, 74⟩], [], [], []⟩], 15⟩], 0, 0)
theorem parseB : Ev (fun n => ra_Parse.f n TB) mkB := Ev.of (fun n => ra_Parse.mono _ n) (k := 900) (by kernel_rfl)
abbrev TC : ByteArray := (⟨#[109, 111, 100, 117, 108, 101, 32, 113, 59, 32, 105, 109, 112, 111, 114, 116, 32, 111, 59, 32, 105, 109, 112, 111, 114, 116, 32, 109, 59, 32, 112, 114, 111, 99, 32, 104, 40, 122, 32, 58, 32, 97, 41, 32, 45, 62, 32, 97, 32, 112, 99, 32, 97, 32, 117, 115, 101, 115, 32, 123, 125, 32, 123, 32, 108, 101, 116, 32, 117, 32, 58, 32, 97, 32, 61, 32, 48, 59, 32, 99, 97, 108, 108, 32, 117, 32, 61, 32, 111, 46, 103, 40, 122, 44, 32, 49, 41, 59, 32, 99, 97, 108, 108, 32, 122, 32, 61, 32, 109, 46, 102, 40, 122, 41, 59, 32, 114, 101, 115, 117, 108, 116, 32, 61, 32, 117, 32, 42, 32, 49, 48, 48, 48, 32, 43, 32, 122, 59, 32, 125]⟩ : ByteArray)
def mkC : PT := ((⟨#[113]⟩ : ByteArray), 7, [⟨(⟨#[111]⟩ : ByteArray), 17⟩, ⟨(⟨#[109]⟩ : ByteArray), 27⟩], [], [⟨(⟨#[104]⟩ : ByteArray), [⟨(⟨#[122]⟩ : ByteArray), (⟨#[97]⟩ : ByteArray), 37⟩], true, (⟨#[97]⟩ : ByteArray), (⟨#[97]⟩ : ByteArray), [], [⟨1, 64, (⟨#[]⟩ : ByteArray), (⟨#[117]⟩ : ByteArray), (⟨#[97]⟩ : ByteArray), false, (⟨#[]⟩ : ByteArray), (⟨#[]⟩ : ByteArray), [⟨1, 0, (⟨#[]⟩ : ByteArray), (⟨#[]⟩ : ByteArray), (-1), (-1), 76⟩], [], [], []⟩, ⟨4, 79, (⟨#[]⟩ : ByteArray), (⟨#[117]⟩ : ByteArray), (⟨#[]⟩ : ByteArray), true, (⟨#[111]⟩ : ByteArray), (⟨#[103]⟩ : ByteArray), [], [[⟨2, 0, (⟨#[]⟩ : ByteArray), (⟨#[122]⟩ : ByteArray), (-1), (-1), 92⟩], [⟨1, 1, (⟨#[]⟩ : ByteArray), (⟨#[]⟩ : ByteArray), (-1), (-1), 95⟩]], [], []⟩, ⟨4, 99, (⟨#[]⟩ : ByteArray), (⟨#[122]⟩ : ByteArray), (⟨#[]⟩ : ByteArray), true, (⟨#[109]⟩ : ByteArray), (⟨#[102]⟩ : ByteArray), [], [[⟨2, 0, (⟨#[]⟩ : ByteArray), (⟨#[122]⟩ : ByteArray), (-1), (-1), 112⟩]], [], []⟩, ⟨3, 116, (⟨#[]⟩ : ByteArray), (⟨#[]⟩ : ByteArray), (⟨#[]⟩ : ByteArray), false, (⟨#[]⟩ : ByteArray), (⟨#[]⟩ : ByteArray), [⟨2, 0, (⟨#[]⟩ : ByteArray), (⟨#[117]⟩ : ByteArray), (-1), (-1), 125⟩, ⟨1, 1000, (⟨#[]⟩ : ByteArray), (⟨#[]⟩ : ByteArray), (-1), (-1), 129⟩, ⟨7, 0, (⟨#[]⟩ : ByteArray), (⟨#[]⟩ : ByteArray), 0, 1, 127⟩, ⟨2, 0, (⟨#[]⟩ : ByteArray), (⟨#[122]⟩ : ByteArray), (-1), (-1), 136⟩, ⟨5, 0, (⟨#[]⟩ : ByteArray), (⟨#[]⟩ : ByteArray), 2, 3, 134⟩], [], [], []⟩], 35⟩], 0, 0)
theorem parseC : Ev (fun n => ra_Parse.f n TC) mkC := Ev.of (fun n => ra_Parse.mono _ n) (k := 900) (by kernel_rfl)
def md (t : PT) : Mod := ⟨t.1, t.2.1, t.2.2.1, t.2.2.2.1, t.2.2.2.2.1⟩
def L : List Mod := [md mkA, md mkB, md mkC]
theorem awaket : Ev (fun k => aquiferlaw22_awake.f k) true := Ev.of (fun k => aquiferlaw22_awake.mono k) (k := 400) (by kernel_rfl)
theorem runs_f : (List.range 40).map (fun j => (rn.f 300 L nm nf [((j : Nat) : Int)] [] 5000).map (fun r => (r.1, r.2.2.1))) = (List.range 40).map (fun j => some (1, ((j : Nat) : Int) + 1)) := by kernel_rfl
theorem runs_h : (List.range 40).map (fun j => (rn.f 300 L nq nh [((j : Nat) : Int)] [] 5000).map (fun r => (r.1, r.2.2.1))) = (List.range 40).map (fun j => some (1, (10 * ((j : Nat) : Int) + 1) * 1000 + ((j : Nat) : Int) + 1)) := by kernel_rfl
abbrev RR := Int × List S61 × Int × List ByteArray × Int
theorem of_map {x : Option RR} {a b : Int} (h : x.map (fun r => (r.1, r.2.2.1)) = some (a, b)) : ∃ r, x = some r ∧ r.1 = a ∧ r.2.2.1 = b := by
 cases x with
 | none => cases h
 | some r =>
  injection h with h
  injection h with h1 h2
  exact ⟨r, rfl, h1, h2⟩
theorem run_f (j : Nat) (hj : j < 40) : ∃ r, rn.f 300 L nm nf [(j : Int)] [] 5000 = some r ∧ r.1 = 1 ∧ r.2.2.1 = (j : Int) + 1 :=
 of_map (List.map_inj_left.1 runs_f j (List.mem_range.2 hj))
theorem run_h (j : Nat) (hj : j < 40) : ∃ r, rn.f 300 L nq nh [(j : Int)] [] 5000 = some r ∧ r.1 = 1 ∧ r.2.2.1 = (10 * (j : Int) + 1) * 1000 + (j : Int) + 1 :=
 of_map (List.map_inj_left.1 runs_h j (List.mem_range.2 hj))
theorem wf_u8 {x : Int} (h : (Lit.int .u8 x).wf = true) : 0 ≤ x ∧ x ≤ 255 := by
 simp only [Lit.wf, IntKind.min, IntKind.max, IntKind.signed, IntKind.bits, Bool.and_eq_true, decide_eq_true_eq] at h
 simpa using h
theorem RunCalls : aquiferlaw22_RunCalls.Pure := by
 intro n hn
 obtain ⟨n0, n1⟩ := wf_u8 hn
 obtain ⟨j, hj, ej⟩ : ∃ j : Nat, j < 40 ∧ Int.tmod (wrap64 n) 40 = (j : Int) := by
  refine ⟨(n % 40).toNat, by omega, ?_⟩
  rw [w64 (by omega) (by omega), Int.tmod_eq_emod_of_nonneg n0]
  omega
 obtain ⟨KA, hA⟩ := parseA
 obtain ⟨KB, hB⟩ := parseB
 obtain ⟨KC, hC⟩ := parseC
 obtain ⟨K3, h3⟩ := awaket
 replace hA : ∀ k, KA ≤ k → ra_Parse.f k TA = some mkA := hA
 replace hB : ∀ k, KB ≤ k → ra_Parse.f k TB = some mkB := hB
 replace hC : ∀ k, KC ≤ k → ra_Parse.f k TC = some mkC := hC
 replace h3 : ∀ k, K3 ≤ k → aquiferlaw22_awake.f k = some true := h3
 obtain ⟨x, hx, x1, x2⟩ := run_f j hj
 obtain ⟨y, hy, y1, y2⟩ := run_h j hj
 obtain ⟨k, kA, kB, kC, k3, k4⟩ : ∃ k, KA ≤ k ∧ KB ≤ k ∧ KC ≤ k ∧ K3 ≤ k ∧ 300 ≤ k := ⟨KA + KB + KC + K3 + 300, by omega, by omega, by omega, by omega, by omega⟩
 have hx' : rn.f k L nm nf [(j : Int)] [] 5000 = some x := at_rounds (fun q => rn.mono _ _ _ _ _ _ q) k4 hx
 have hy' : rn.f k L nq nh [(j : Int)] [] 5000 = some y := at_rounds (fun q => rn.mono _ _ _ _ _ _ q) k4 hy
 refine ⟨k, ?_⟩
 unfold aquiferlaw22_RunCalls.f
 rw [hA k kA, Option.bind_some, hB k kB, Option.bind_some, hC k kC, Option.bind_some, Option.bind_some, ej]
 change (rn.f k L nm nf [(j : Int)] [] 5000).bind _ = _
 rw [hx', Option.bind_some]
 change (rn.f k L nq nh [(j : Int)] [] 5000).bind _ = _
 rw [hy', Option.bind_some, if_pos (by kernel_rfl), if_pos (by kernel_rfl), if_pos (by kernel_rfl), if_pos x1, if_pos (by rw [x2, w64 (by omega) (by omega)]), if_pos y1, if_pos (by rw [y2, w64 (n := 10 * (j : Int)) (by omega) (by omega), w64 (n := 10 * (j : Int) + 1) (by omega) (by omega), w64 (n := (10 * (j : Int) + 1) * 1000) (by omega) (by omega), w64 (n := (10 * (j : Int) + 1) * 1000 + (j : Int)) (by omega) (by omega), w64 (by omega) (by omega)]), h3 k k3]
 rfl
end Go.Proofs.Ytcjnhnnfoadklaa.Pure
