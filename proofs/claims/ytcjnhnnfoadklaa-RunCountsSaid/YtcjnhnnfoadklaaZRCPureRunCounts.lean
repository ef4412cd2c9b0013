/- The statement RunCounts over numbers: a loop that counts down costs what it costs. No further condition. -/
import Derived.Test.YtcjnhnnfoadklaaZRCx18
namespace Go.Proofs.Ytcjnhnnfoadklaa.Pure
open Go.RowKit Go.Proofs.Ytcjnhnnfoadklaa.QRunCounts Go.Proofs.YtcjnhnnfoadklaaW.PrintWords Go.Proofs.YtcjnhnnfoadklaaW.PrintLast
set_option linter.unusedVariables false
set_option linter.unusedSimpArgs false
set_option maxRecDepth 100000
abbrev Cell := S61
abbrev Mod := S39
abbrev Stm := S91
abbrev Prc := S44
abbrev Vr := S64
abbrev RT := run_Run.RT
theorem w64 {n : Int} (h0 : -4503599627370496 ≤ n) (h1 : n ≤ 4503599627370496) : wrap64 n = n := by unfold wrap64; omega
abbrev nm : ByteArray := (⟨#[109]⟩ : ByteArray)
abbrev np : ByteArray := (⟨#[112]⟩ : ByteArray)
abbrev nx : ByteArray := (⟨#[120]⟩ : ByteArray)
abbrev ny : ByteArray := (⟨#[121]⟩ : ByteArray)
abbrev nt : ByteArray := (⟨#[116]⟩ : ByteArray)
abbrev pre : ByteArray := (⟨#[109, 111, 100, 117, 108, 101, 32, 109, 59, 32, 118, 97, 114, 32, 120, 32, 58, 32, 97, 32, 61, 32]⟩ : ByteArray)
abbrev post : ByteArray := (⟨#[59, 32, 118, 97, 114, 32, 121, 32, 58, 32, 97, 32, 61, 32, 48, 59, 32, 112, 114, 111, 99, 32, 112, 40, 41, 32, 112, 99, 32, 97, 32, 117, 115, 101, 115, 32, 123, 32, 116, 32, 125, 32, 123, 32, 119, 104, 105, 108, 101, 32, 120, 32, 123, 32, 120, 32, 61, 32, 120, 32, 45, 32, 49, 59, 32, 121, 32, 61, 32, 121, 32, 43, 32, 50, 59, 32, 101, 109, 105, 116, 32, 116, 59, 32, 125, 32, 125]⟩ : ByteArray)
abbrev PT := ByteArray × Int × (List S116) × (List Vr) × (List Prc) × Int × Int
def dg (k : Nat) : ByteArray := (aquiferref1_Digits.f 60 (k : Int)).getD (⟨#[]⟩ : ByteArray)
def mk : Bool → Int → PT
 | true, k => ((⟨#[109]⟩ : ByteArray), 7, [], [⟨(⟨#[120]⟩ : ByteArray), (⟨#[97]⟩ : ByteArray), k, 14⟩, ⟨(⟨#[121]⟩ : ByteArray), (⟨#[97]⟩ : ByteArray), 0, 29⟩], [⟨(⟨#[112]⟩ : ByteArray), [], false, (⟨#[]⟩ : ByteArray), (⟨#[97]⟩ : ByteArray), [(⟨#[116]⟩ : ByteArray)], [⟨6, 67, (⟨#[]⟩ : ByteArray), (⟨#[]⟩ : ByteArray), (⟨#[]⟩ : ByteArray), false, (⟨#[]⟩ : ByteArray), (⟨#[]⟩ : ByteArray), [⟨2, 0, (⟨#[]⟩ : ByteArray), (⟨#[120]⟩ : ByteArray), (-1), (-1), 73⟩], [], [⟨2, 77, (⟨#[]⟩ : ByteArray), (⟨#[120]⟩ : ByteArray), (⟨#[]⟩ : ByteArray), false, (⟨#[]⟩ : ByteArray), (⟨#[]⟩ : ByteArray), [⟨2, 0, (⟨#[]⟩ : ByteArray), (⟨#[120]⟩ : ByteArray), (-1), (-1), 81⟩, ⟨1, 1, (⟨#[]⟩ : ByteArray), (⟨#[]⟩ : ByteArray), (-1), (-1), 85⟩, ⟨6, 0, (⟨#[]⟩ : ByteArray), (⟨#[]⟩ : ByteArray), 0, 1, 83⟩], [], [], []⟩, ⟨2, 88, (⟨#[]⟩ : ByteArray), (⟨#[121]⟩ : ByteArray), (⟨#[]⟩ : ByteArray), false, (⟨#[]⟩ : ByteArray), (⟨#[]⟩ : ByteArray), [⟨2, 0, (⟨#[]⟩ : ByteArray), (⟨#[121]⟩ : ByteArray), (-1), (-1), 92⟩, ⟨1, 2, (⟨#[]⟩ : ByteArray), (⟨#[]⟩ : ByteArray), (-1), (-1), 96⟩, ⟨5, 0, (⟨#[]⟩ : ByteArray), (⟨#[]⟩ : ByteArray), 0, 1, 94⟩], [], [], []⟩, ⟨7, 99, (⟨#[]⟩ : ByteArray), (⟨#[116]⟩ : ByteArray), (⟨#[]⟩ : ByteArray), false, (⟨#[]⟩ : ByteArray), (⟨#[]⟩ : ByteArray), [], [], [], []⟩], []⟩], 45⟩], 0, 0)
 | false, k => ((⟨#[109]⟩ : ByteArray), 7, [], [⟨(⟨#[120]⟩ : ByteArray), (⟨#[97]⟩ : ByteArray), k, 14⟩, ⟨(⟨#[121]⟩ : ByteArray), (⟨#[97]⟩ : ByteArray), 0, 30⟩], [⟨(⟨#[112]⟩ : ByteArray), [], false, (⟨#[]⟩ : ByteArray), (⟨#[97]⟩ : ByteArray), [(⟨#[116]⟩ : ByteArray)], [⟨6, 68, (⟨#[]⟩ : ByteArray), (⟨#[]⟩ : ByteArray), (⟨#[]⟩ : ByteArray), false, (⟨#[]⟩ : ByteArray), (⟨#[]⟩ : ByteArray), [⟨2, 0, (⟨#[]⟩ : ByteArray), (⟨#[120]⟩ : ByteArray), (-1), (-1), 74⟩], [], [⟨2, 78, (⟨#[]⟩ : ByteArray), (⟨#[120]⟩ : ByteArray), (⟨#[]⟩ : ByteArray), false, (⟨#[]⟩ : ByteArray), (⟨#[]⟩ : ByteArray), [⟨2, 0, (⟨#[]⟩ : ByteArray), (⟨#[120]⟩ : ByteArray), (-1), (-1), 82⟩, ⟨1, 1, (⟨#[]⟩ : ByteArray), (⟨#[]⟩ : ByteArray), (-1), (-1), 86⟩, ⟨6, 0, (⟨#[]⟩ : ByteArray), (⟨#[]⟩ : ByteArray), 0, 1, 84⟩], [], [], []⟩, ⟨2, 89, (⟨#[]⟩ : ByteArray), (⟨#[121]⟩ : ByteArray), (⟨#[]⟩ : ByteArray), false, (⟨#[]⟩ : ByteArray), (⟨#[]⟩ : ByteArray), [⟨2, 0, (⟨#[]⟩ : ByteArray), (⟨#[121]⟩ : ByteArray), (-1), (-1), 93⟩, ⟨1, 2, (⟨#[]⟩ : ByteArray), (⟨#[]⟩ : ByteArray), (-1), (-1), 97⟩, ⟨5, 0, (⟨#[]⟩ : ByteArray), (⟨#[]⟩ : ByteArray), 0, 1, 95⟩], [], [], []⟩, ⟨7, 100, (⟨#[]⟩ : ByteArray), (⟨#[116]⟩ : ByteArray), (⟨#[]⟩ : ByteArray), false, (⟨#[]⟩ : ByteArray), (⟨#[]⟩ : ByteArray), [], [], [], []⟩], []⟩], 46⟩], 0, 0)
theorem digits_all : (List.range 100).map (fun k => aquiferref1_Digits.f 60 ((k : Nat) : Int)) = (List.range 100).map (fun k => some (dg k)) := by kernel_rfl
def T1 (a : UInt8) : ByteArray := (⟨#[109, 111, 100, 117, 108, 101, 32, 109, 59, 32, 118, 97, 114, 32, 120, 32, 58, 32, 97, 32, 61, 32, a, 59, 32, 118, 97, 114, 32, 121, 32, 58, 32, 97, 32, 61, 32, 48, 59, 32, 112, 114, 111, 99, 32, 112, 40, 41, 32, 112, 99, 32, 97, 32, 117, 115, 101, 115, 32, 123, 32, 116, 32, 125, 32, 123, 32, 119, 104, 105, 108, 101, 32, 120, 32, 123, 32, 120, 32, 61, 32, 120, 32, 45, 32, 49, 59, 32, 121, 32, 61, 32, 121, 32, 43, 32, 50, 59, 32, 101, 109, 105, 116, 32, 116, 59, 32, 125, 32, 125]⟩ : ByteArray)
def T2 (a b : UInt8) : ByteArray := (⟨#[109, 111, 100, 117, 108, 101, 32, 109, 59, 32, 118, 97, 114, 32, 120, 32, 58, 32, 97, 32, 61, 32, a, b, 59, 32, 118, 97, 114, 32, 121, 32, 58, 32, 97, 32, 61, 32, 48, 59, 32, 112, 114, 111, 99, 32, 112, 40, 41, 32, 112, 99, 32, 97, 32, 117, 115, 101, 115, 32, 123, 32, 116, 32, 125, 32, 123, 32, 119, 104, 105, 108, 101, 32, 120, 32, 123, 32, 120, 32, 61, 32, 120, 32, 45, 32, 49, 59, 32, 121, 32, 61, 32, 121, 32, 43, 32, 50, 59, 32, 101, 109, 105, 116, 32, 116, 59, 32, 125, 32, 125]⟩ : ByteArray)
set_option maxHeartbeats 8000000 in
theorem q0 : ra_Parse.f 600 ((pre ++ dg 0) ++ post) = some (mk (decide (0 < 10)) ((0 : Nat) : Int)) := (congrArg (ra_Parse.f 600) (by kernel_rfl : (pre ++ dg 0) ++ post = T1 48)).trans (by kernel_rfl)
set_option maxHeartbeats 8000000 in
theorem q1 : ra_Parse.f 600 ((pre ++ dg 1) ++ post) = some (mk (decide (1 < 10)) ((1 : Nat) : Int)) := (congrArg (ra_Parse.f 600) (by kernel_rfl : (pre ++ dg 1) ++ post = T1 49)).trans (by kernel_rfl)
set_option maxHeartbeats 8000000 in
theorem q2 : ra_Parse.f 600 ((pre ++ dg 2) ++ post) = some (mk (decide (2 < 10)) ((2 : Nat) : Int)) := (congrArg (ra_Parse.f 600) (by kernel_rfl : (pre ++ dg 2) ++ post = T1 50)).trans (by kernel_rfl)
set_option maxHeartbeats 8000000 in
theorem q3 : ra_Parse.f 600 ((pre ++ dg 3) ++ post) = some (mk (decide (3 < 10)) ((3 : Nat) : Int)) := (congrArg (ra_Parse.f 600) (by kernel_rfl : (pre ++ dg 3) ++ post = T1 51)).trans (by kernel_rfl)
set_option maxHeartbeats 8000000 in
theorem q4 : ra_Parse.f 600 ((pre ++ dg 4) ++ post) = some (mk (decide (4 < 10)) ((4 : Nat) : Int)) := (congrArg (ra_Parse.f 600) (by kernel_rfl : (pre ++ dg 4) ++ post = T1 52)).trans (by kernel_rfl)
set_option maxHeartbeats 8000000 in
theorem q5 : ra_Parse.f 600 ((pre ++ dg 5) ++ post) = some (mk (decide (5 < 10)) ((5 : Nat) : Int)) := (congrArg (ra_Parse.f 600) (by kernel_rfl : (pre ++ dg 5) ++ post = T1 53)).trans (by kernel_rfl)
set_option maxHeartbeats 8000000 in
theorem q6 : ra_Parse.f 600 ((pre ++ dg 6) ++ post) = some (mk (decide (6 < 10)) ((6 : Nat) : Int)) := (congrArg (ra_Parse.f 600) (by kernel_rfl : (pre ++ dg 6) ++ post = T1 54)).trans (by kernel_rfl)
set_option maxHeartbeats 8000000 in
theorem q7 : ra_Parse.f 600 ((pre ++ dg 7) ++ post) = some (mk (decide (7 < 10)) ((7 : Nat) : Int)) := (congrArg (ra_Parse.f 600) (by kernel_rfl : (pre ++ dg 7) ++ post = T1 55)).trans (by kernel_rfl)
set_option maxHeartbeats 8000000 in
theorem q8 : ra_Parse.f 600 ((pre ++ dg 8) ++ post) = some (mk (decide (8 < 10)) ((8 : Nat) : Int)) := (congrArg (ra_Parse.f 600) (by kernel_rfl : (pre ++ dg 8) ++ post = T1 56)).trans (by kernel_rfl)
set_option maxHeartbeats 8000000 in
theorem q9 : ra_Parse.f 600 ((pre ++ dg 9) ++ post) = some (mk (decide (9 < 10)) ((9 : Nat) : Int)) := (congrArg (ra_Parse.f 600) (by kernel_rfl : (pre ++ dg 9) ++ post = T1 57)).trans (by kernel_rfl)
set_option maxHeartbeats 8000000 in
theorem q10 : ra_Parse.f 600 ((pre ++ dg 10) ++ post) = some (mk (decide (10 < 10)) ((10 : Nat) : Int)) := (congrArg (ra_Parse.f 600) (by kernel_rfl : (pre ++ dg 10) ++ post = T2 49 48)).trans (by kernel_rfl)
set_option maxHeartbeats 8000000 in
theorem q11 : ra_Parse.f 600 ((pre ++ dg 11) ++ post) = some (mk (decide (11 < 10)) ((11 : Nat) : Int)) := (congrArg (ra_Parse.f 600) (by kernel_rfl : (pre ++ dg 11) ++ post = T2 49 49)).trans (by kernel_rfl)
set_option maxHeartbeats 8000000 in
theorem q12 : ra_Parse.f 600 ((pre ++ dg 12) ++ post) = some (mk (decide (12 < 10)) ((12 : Nat) : Int)) := (congrArg (ra_Parse.f 600) (by kernel_rfl : (pre ++ dg 12) ++ post = T2 49 50)).trans (by kernel_rfl)
set_option maxHeartbeats 8000000 in
theorem q13 : ra_Parse.f 600 ((pre ++ dg 13) ++ post) = some (mk (decide (13 < 10)) ((13 : Nat) : Int)) := (congrArg (ra_Parse.f 600) (by kernel_rfl : (pre ++ dg 13) ++ post = T2 49 51)).trans (by kernel_rfl)
set_option maxHeartbeats 8000000 in
theorem q14 : ra_Parse.f 600 ((pre ++ dg 14) ++ post) = some (mk (decide (14 < 10)) ((14 : Nat) : Int)) := (congrArg (ra_Parse.f 600) (by kernel_rfl : (pre ++ dg 14) ++ post = T2 49 52)).trans (by kernel_rfl)
set_option maxHeartbeats 8000000 in
theorem q15 : ra_Parse.f 600 ((pre ++ dg 15) ++ post) = some (mk (decide (15 < 10)) ((15 : Nat) : Int)) := (congrArg (ra_Parse.f 600) (by kernel_rfl : (pre ++ dg 15) ++ post = T2 49 53)).trans (by kernel_rfl)
set_option maxHeartbeats 8000000 in
theorem q16 : ra_Parse.f 600 ((pre ++ dg 16) ++ post) = some (mk (decide (16 < 10)) ((16 : Nat) : Int)) := (congrArg (ra_Parse.f 600) (by kernel_rfl : (pre ++ dg 16) ++ post = T2 49 54)).trans (by kernel_rfl)
set_option maxHeartbeats 8000000 in
theorem q17 : ra_Parse.f 600 ((pre ++ dg 17) ++ post) = some (mk (decide (17 < 10)) ((17 : Nat) : Int)) := (congrArg (ra_Parse.f 600) (by kernel_rfl : (pre ++ dg 17) ++ post = T2 49 55)).trans (by kernel_rfl)
set_option maxHeartbeats 8000000 in
theorem q18 : ra_Parse.f 600 ((pre ++ dg 18) ++ post) = some (mk (decide (18 < 10)) ((18 : Nat) : Int)) := (congrArg (ra_Parse.f 600) (by kernel_rfl : (pre ++ dg 18) ++ post = T2 49 56)).trans (by kernel_rfl)
set_option maxHeartbeats 8000000 in
theorem q19 : ra_Parse.f 600 ((pre ++ dg 19) ++ post) = some (mk (decide (19 < 10)) ((19 : Nat) : Int)) := (congrArg (ra_Parse.f 600) (by kernel_rfl : (pre ++ dg 19) ++ post = T2 49 57)).trans (by kernel_rfl)
set_option maxHeartbeats 8000000 in
theorem q20 : ra_Parse.f 600 ((pre ++ dg 20) ++ post) = some (mk (decide (20 < 10)) ((20 : Nat) : Int)) := (congrArg (ra_Parse.f 600) (by kernel_rfl : (pre ++ dg 20) ++ post = T2 50 48)).trans (by kernel_rfl)
set_option maxHeartbeats 8000000 in
theorem q21 : ra_Parse.f 600 ((pre ++ dg 21) ++ post) = some (mk (decide (21 < 10)) ((21 : Nat) : Int)) := (congrArg (ra_Parse.f 600) (by kernel_rfl : (pre ++ dg 21) ++ post = T2 50 49)).trans (by kernel_rfl)
set_option maxHeartbeats 8000000 in
theorem q22 : ra_Parse.f 600 ((pre ++ dg 22) ++ post) = some (mk (decide (22 < 10)) ((22 : Nat) : Int)) := (congrArg (ra_Parse.f 600) (by kernel_rfl : (pre ++ dg 22) ++ post = T2 50 50)).trans (by kernel_rfl)
set_option maxHeartbeats 8000000 in
theorem q23 : ra_Parse.f 600 ((pre ++ dg 23) ++ post) = some (mk (decide (23 < 10)) ((23 : Nat) : Int)) := (congrArg (ra_Parse.f 600) (by kernel_rfl : (pre ++ dg 23) ++ post = T2 50 51)).trans (by kernel_rfl)
set_option maxHeartbeats 8000000 in
theorem q24 : ra_Parse.f 600 ((pre ++ dg 24) ++ post) = some (mk (decide (24 < 10)) ((24 : Nat) : Int)) := (congrArg (ra_Parse.f 600) (by kernel_rfl : (pre ++ dg 24) ++ post = T2 50 52)).trans (by kernel_rfl)
set_option maxHeartbeats 8000000 in
theorem q25 : ra_Parse.f 600 ((pre ++ dg 25) ++ post) = some (mk (decide (25 < 10)) ((25 : Nat) : Int)) := (congrArg (ra_Parse.f 600) (by kernel_rfl : (pre ++ dg 25) ++ post = T2 50 53)).trans (by kernel_rfl)
set_option maxHeartbeats 8000000 in
theorem q26 : ra_Parse.f 600 ((pre ++ dg 26) ++ post) = some (mk (decide (26 < 10)) ((26 : Nat) : Int)) := (congrArg (ra_Parse.f 600) (by kernel_rfl : (pre ++ dg 26) ++ post = T2 50 54)).trans (by kernel_rfl)
set_option maxHeartbeats 8000000 in
theorem q27 : ra_Parse.f 600 ((pre ++ dg 27) ++ post) = some (mk (decide (27 < 10)) ((27 : Nat) : Int)) := (congrArg (ra_Parse.f 600) (by kernel_rfl : (pre ++ dg 27) ++ post = T2 50 55)).trans (by kernel_rfl)
set_option maxHeartbeats 8000000 in
theorem q28 : ra_Parse.f 600 ((pre ++ dg 28) ++ post) = some (mk (decide (28 < 10)) ((28 : Nat) : Int)) := (congrArg (ra_Parse.f 600) (by kernel_rfl : (pre ++ dg 28) ++ post = T2 50 56)).trans (by kernel_rfl)
set_option maxHeartbeats 8000000 in
theorem q29 : ra_Parse.f 600 ((pre ++ dg 29) ++ post) = some (mk (decide (29 < 10)) ((29 : Nat) : Int)) := (congrArg (ra_Parse.f 600) (by kernel_rfl : (pre ++ dg 29) ++ post = T2 50 57)).trans (by kernel_rfl)
set_option maxHeartbeats 8000000 in
theorem q30 : ra_Parse.f 600 ((pre ++ dg 30) ++ post) = some (mk (decide (30 < 10)) ((30 : Nat) : Int)) := (congrArg (ra_Parse.f 600) (by kernel_rfl : (pre ++ dg 30) ++ post = T2 51 48)).trans (by kernel_rfl)
set_option maxHeartbeats 8000000 in
theorem q31 : ra_Parse.f 600 ((pre ++ dg 31) ++ post) = some (mk (decide (31 < 10)) ((31 : Nat) : Int)) := (congrArg (ra_Parse.f 600) (by kernel_rfl : (pre ++ dg 31) ++ post = T2 51 49)).trans (by kernel_rfl)
set_option maxHeartbeats 8000000 in
theorem q32 : ra_Parse.f 600 ((pre ++ dg 32) ++ post) = some (mk (decide (32 < 10)) ((32 : Nat) : Int)) := (congrArg (ra_Parse.f 600) (by kernel_rfl : (pre ++ dg 32) ++ post = T2 51 50)).trans (by kernel_rfl)
set_option maxHeartbeats 8000000 in
theorem q33 : ra_Parse.f 600 ((pre ++ dg 33) ++ post) = some (mk (decide (33 < 10)) ((33 : Nat) : Int)) := (congrArg (ra_Parse.f 600) (by kernel_rfl : (pre ++ dg 33) ++ post = T2 51 51)).trans (by kernel_rfl)
set_option maxHeartbeats 8000000 in
theorem q34 : ra_Parse.f 600 ((pre ++ dg 34) ++ post) = some (mk (decide (34 < 10)) ((34 : Nat) : Int)) := (congrArg (ra_Parse.f 600) (by kernel_rfl : (pre ++ dg 34) ++ post = T2 51 52)).trans (by kernel_rfl)
set_option maxHeartbeats 8000000 in
theorem q35 : ra_Parse.f 600 ((pre ++ dg 35) ++ post) = some (mk (decide (35 < 10)) ((35 : Nat) : Int)) := (congrArg (ra_Parse.f 600) (by kernel_rfl : (pre ++ dg 35) ++ post = T2 51 53)).trans (by kernel_rfl)
set_option maxHeartbeats 8000000 in
theorem q36 : ra_Parse.f 600 ((pre ++ dg 36) ++ post) = some (mk (decide (36 < 10)) ((36 : Nat) : Int)) := (congrArg (ra_Parse.f 600) (by kernel_rfl : (pre ++ dg 36) ++ post = T2 51 54)).trans (by kernel_rfl)
set_option maxHeartbeats 8000000 in
theorem q37 : ra_Parse.f 600 ((pre ++ dg 37) ++ post) = some (mk (decide (37 < 10)) ((37 : Nat) : Int)) := (congrArg (ra_Parse.f 600) (by kernel_rfl : (pre ++ dg 37) ++ post = T2 51 55)).trans (by kernel_rfl)
set_option maxHeartbeats 8000000 in
theorem q38 : ra_Parse.f 600 ((pre ++ dg 38) ++ post) = some (mk (decide (38 < 10)) ((38 : Nat) : Int)) := (congrArg (ra_Parse.f 600) (by kernel_rfl : (pre ++ dg 38) ++ post = T2 51 56)).trans (by kernel_rfl)
set_option maxHeartbeats 8000000 in
theorem q39 : ra_Parse.f 600 ((pre ++ dg 39) ++ post) = some (mk (decide (39 < 10)) ((39 : Nat) : Int)) := (congrArg (ra_Parse.f 600) (by kernel_rfl : (pre ++ dg 39) ++ post = T2 51 57)).trans (by kernel_rfl)
set_option maxHeartbeats 8000000 in
theorem q40 : ra_Parse.f 600 ((pre ++ dg 40) ++ post) = some (mk (decide (40 < 10)) ((40 : Nat) : Int)) := (congrArg (ra_Parse.f 600) (by kernel_rfl : (pre ++ dg 40) ++ post = T2 52 48)).trans (by kernel_rfl)
set_option maxHeartbeats 8000000 in
theorem q41 : ra_Parse.f 600 ((pre ++ dg 41) ++ post) = some (mk (decide (41 < 10)) ((41 : Nat) : Int)) := (congrArg (ra_Parse.f 600) (by kernel_rfl : (pre ++ dg 41) ++ post = T2 52 49)).trans (by kernel_rfl)
set_option maxHeartbeats 8000000 in
theorem q42 : ra_Parse.f 600 ((pre ++ dg 42) ++ post) = some (mk (decide (42 < 10)) ((42 : Nat) : Int)) := (congrArg (ra_Parse.f 600) (by kernel_rfl : (pre ++ dg 42) ++ post = T2 52 50)).trans (by kernel_rfl)
set_option maxHeartbeats 8000000 in
theorem q43 : ra_Parse.f 600 ((pre ++ dg 43) ++ post) = some (mk (decide (43 < 10)) ((43 : Nat) : Int)) := (congrArg (ra_Parse.f 600) (by kernel_rfl : (pre ++ dg 43) ++ post = T2 52 51)).trans (by kernel_rfl)
set_option maxHeartbeats 8000000 in
theorem q44 : ra_Parse.f 600 ((pre ++ dg 44) ++ post) = some (mk (decide (44 < 10)) ((44 : Nat) : Int)) := (congrArg (ra_Parse.f 600) (by kernel_rfl : (pre ++ dg 44) ++ post = T2 52 52)).trans (by kernel_rfl)
set_option maxHeartbeats 8000000 in
theorem q45 : ra_Parse.f 600 ((pre ++ dg 45) ++ post) = some (mk (decide (45 < 10)) ((45 : Nat) : Int)) := (congrArg (ra_Parse.f 600) (by kernel_rfl : (pre ++ dg 45) ++ post = T2 52 53)).trans (by kernel_rfl)
set_option maxHeartbeats 8000000 in
theorem q46 : ra_Parse.f 600 ((pre ++ dg 46) ++ post) = some (mk (decide (46 < 10)) ((46 : Nat) : Int)) := (congrArg (ra_Parse.f 600) (by kernel_rfl : (pre ++ dg 46) ++ post = T2 52 54)).trans (by kernel_rfl)
set_option maxHeartbeats 8000000 in
theorem q47 : ra_Parse.f 600 ((pre ++ dg 47) ++ post) = some (mk (decide (47 < 10)) ((47 : Nat) : Int)) := (congrArg (ra_Parse.f 600) (by kernel_rfl : (pre ++ dg 47) ++ post = T2 52 55)).trans (by kernel_rfl)
set_option maxHeartbeats 8000000 in
theorem q48 : ra_Parse.f 600 ((pre ++ dg 48) ++ post) = some (mk (decide (48 < 10)) ((48 : Nat) : Int)) := (congrArg (ra_Parse.f 600) (by kernel_rfl : (pre ++ dg 48) ++ post = T2 52 56)).trans (by kernel_rfl)
set_option maxHeartbeats 8000000 in
theorem q49 : ra_Parse.f 600 ((pre ++ dg 49) ++ post) = some (mk (decide (49 < 10)) ((49 : Nat) : Int)) := (congrArg (ra_Parse.f 600) (by kernel_rfl : (pre ++ dg 49) ++ post = T2 52 57)).trans (by kernel_rfl)
set_option maxHeartbeats 8000000 in
theorem q50 : ra_Parse.f 600 ((pre ++ dg 50) ++ post) = some (mk (decide (50 < 10)) ((50 : Nat) : Int)) := (congrArg (ra_Parse.f 600) (by kernel_rfl : (pre ++ dg 50) ++ post = T2 53 48)).trans (by kernel_rfl)
set_option maxHeartbeats 8000000 in
theorem q51 : ra_Parse.f 600 ((pre ++ dg 51) ++ post) = some (mk (decide (51 < 10)) ((51 : Nat) : Int)) := (congrArg (ra_Parse.f 600) (by kernel_rfl : (pre ++ dg 51) ++ post = T2 53 49)).trans (by kernel_rfl)
set_option maxHeartbeats 8000000 in
theorem q52 : ra_Parse.f 600 ((pre ++ dg 52) ++ post) = some (mk (decide (52 < 10)) ((52 : Nat) : Int)) := (congrArg (ra_Parse.f 600) (by kernel_rfl : (pre ++ dg 52) ++ post = T2 53 50)).trans (by kernel_rfl)
set_option maxHeartbeats 8000000 in
theorem q53 : ra_Parse.f 600 ((pre ++ dg 53) ++ post) = some (mk (decide (53 < 10)) ((53 : Nat) : Int)) := (congrArg (ra_Parse.f 600) (by kernel_rfl : (pre ++ dg 53) ++ post = T2 53 51)).trans (by kernel_rfl)
set_option maxHeartbeats 8000000 in
theorem q54 : ra_Parse.f 600 ((pre ++ dg 54) ++ post) = some (mk (decide (54 < 10)) ((54 : Nat) : Int)) := (congrArg (ra_Parse.f 600) (by kernel_rfl : (pre ++ dg 54) ++ post = T2 53 52)).trans (by kernel_rfl)
set_option maxHeartbeats 8000000 in
theorem q55 : ra_Parse.f 600 ((pre ++ dg 55) ++ post) = some (mk (decide (55 < 10)) ((55 : Nat) : Int)) := (congrArg (ra_Parse.f 600) (by kernel_rfl : (pre ++ dg 55) ++ post = T2 53 53)).trans (by kernel_rfl)
set_option maxHeartbeats 8000000 in
theorem q56 : ra_Parse.f 600 ((pre ++ dg 56) ++ post) = some (mk (decide (56 < 10)) ((56 : Nat) : Int)) := (congrArg (ra_Parse.f 600) (by kernel_rfl : (pre ++ dg 56) ++ post = T2 53 54)).trans (by kernel_rfl)
set_option maxHeartbeats 8000000 in
theorem q57 : ra_Parse.f 600 ((pre ++ dg 57) ++ post) = some (mk (decide (57 < 10)) ((57 : Nat) : Int)) := (congrArg (ra_Parse.f 600) (by kernel_rfl : (pre ++ dg 57) ++ post = T2 53 55)).trans (by kernel_rfl)
set_option maxHeartbeats 8000000 in
theorem q58 : ra_Parse.f 600 ((pre ++ dg 58) ++ post) = some (mk (decide (58 < 10)) ((58 : Nat) : Int)) := (congrArg (ra_Parse.f 600) (by kernel_rfl : (pre ++ dg 58) ++ post = T2 53 56)).trans (by kernel_rfl)
set_option maxHeartbeats 8000000 in
theorem q59 : ra_Parse.f 600 ((pre ++ dg 59) ++ post) = some (mk (decide (59 < 10)) ((59 : Nat) : Int)) := (congrArg (ra_Parse.f 600) (by kernel_rfl : (pre ++ dg 59) ++ post = T2 53 57)).trans (by kernel_rfl)
set_option maxHeartbeats 8000000 in
theorem q60 : ra_Parse.f 600 ((pre ++ dg 60) ++ post) = some (mk (decide (60 < 10)) ((60 : Nat) : Int)) := (congrArg (ra_Parse.f 600) (by kernel_rfl : (pre ++ dg 60) ++ post = T2 54 48)).trans (by kernel_rfl)
set_option maxHeartbeats 8000000 in
theorem q61 : ra_Parse.f 600 ((pre ++ dg 61) ++ post) = some (mk (decide (61 < 10)) ((61 : Nat) : Int)) := (congrArg (ra_Parse.f 600) (by kernel_rfl : (pre ++ dg 61) ++ post = T2 54 49)).trans (by kernel_rfl)
set_option maxHeartbeats 8000000 in
theorem q62 : ra_Parse.f 600 ((pre ++ dg 62) ++ post) = some (mk (decide (62 < 10)) ((62 : Nat) : Int)) := (congrArg (ra_Parse.f 600) (by kernel_rfl : (pre ++ dg 62) ++ post = T2 54 50)).trans (by kernel_rfl)
set_option maxHeartbeats 8000000 in
theorem q63 : ra_Parse.f 600 ((pre ++ dg 63) ++ post) = some (mk (decide (63 < 10)) ((63 : Nat) : Int)) := (congrArg (ra_Parse.f 600) (by kernel_rfl : (pre ++ dg 63) ++ post = T2 54 51)).trans (by kernel_rfl)
set_option maxHeartbeats 8000000 in
theorem q64 : ra_Parse.f 600 ((pre ++ dg 64) ++ post) = some (mk (decide (64 < 10)) ((64 : Nat) : Int)) := (congrArg (ra_Parse.f 600) (by kernel_rfl : (pre ++ dg 64) ++ post = T2 54 52)).trans (by kernel_rfl)
set_option maxHeartbeats 8000000 in
theorem q65 : ra_Parse.f 600 ((pre ++ dg 65) ++ post) = some (mk (decide (65 < 10)) ((65 : Nat) : Int)) := (congrArg (ra_Parse.f 600) (by kernel_rfl : (pre ++ dg 65) ++ post = T2 54 53)).trans (by kernel_rfl)
set_option maxHeartbeats 8000000 in
theorem q66 : ra_Parse.f 600 ((pre ++ dg 66) ++ post) = some (mk (decide (66 < 10)) ((66 : Nat) : Int)) := (congrArg (ra_Parse.f 600) (by kernel_rfl : (pre ++ dg 66) ++ post = T2 54 54)).trans (by kernel_rfl)
set_option maxHeartbeats 8000000 in
theorem q67 : ra_Parse.f 600 ((pre ++ dg 67) ++ post) = some (mk (decide (67 < 10)) ((67 : Nat) : Int)) := (congrArg (ra_Parse.f 600) (by kernel_rfl : (pre ++ dg 67) ++ post = T2 54 55)).trans (by kernel_rfl)
set_option maxHeartbeats 8000000 in
theorem q68 : ra_Parse.f 600 ((pre ++ dg 68) ++ post) = some (mk (decide (68 < 10)) ((68 : Nat) : Int)) := (congrArg (ra_Parse.f 600) (by kernel_rfl : (pre ++ dg 68) ++ post = T2 54 56)).trans (by kernel_rfl)
set_option maxHeartbeats 8000000 in
theorem q69 : ra_Parse.f 600 ((pre ++ dg 69) ++ post) = some (mk (decide (69 < 10)) ((69 : Nat) : Int)) := (congrArg (ra_Parse.f 600) (by kernel_rfl : (pre ++ dg 69) ++ post = T2 54 57)).trans (by kernel_rfl)
set_option maxHeartbeats 8000000 in
theorem q70 : ra_Parse.f 600 ((pre ++ dg 70) ++ post) = some (mk (decide (70 < 10)) ((70 : Nat) : Int)) := (congrArg (ra_Parse.f 600) (by kernel_rfl : (pre ++ dg 70) ++ post = T2 55 48)).trans (by kernel_rfl)
set_option maxHeartbeats 8000000 in
theorem q71 : ra_Parse.f 600 ((pre ++ dg 71) ++ post) = some (mk (decide (71 < 10)) ((71 : Nat) : Int)) := (congrArg (ra_Parse.f 600) (by kernel_rfl : (pre ++ dg 71) ++ post = T2 55 49)).trans (by kernel_rfl)
set_option maxHeartbeats 8000000 in
theorem q72 : ra_Parse.f 600 ((pre ++ dg 72) ++ post) = some (mk (decide (72 < 10)) ((72 : Nat) : Int)) := (congrArg (ra_Parse.f 600) (by kernel_rfl : (pre ++ dg 72) ++ post = T2 55 50)).trans (by kernel_rfl)
set_option maxHeartbeats 8000000 in
theorem q73 : ra_Parse.f 600 ((pre ++ dg 73) ++ post) = some (mk (decide (73 < 10)) ((73 : Nat) : Int)) := (congrArg (ra_Parse.f 600) (by kernel_rfl : (pre ++ dg 73) ++ post = T2 55 51)).trans (by kernel_rfl)
set_option maxHeartbeats 8000000 in
theorem q74 : ra_Parse.f 600 ((pre ++ dg 74) ++ post) = some (mk (decide (74 < 10)) ((74 : Nat) : Int)) := (congrArg (ra_Parse.f 600) (by kernel_rfl : (pre ++ dg 74) ++ post = T2 55 52)).trans (by kernel_rfl)
set_option maxHeartbeats 8000000 in
theorem q75 : ra_Parse.f 600 ((pre ++ dg 75) ++ post) = some (mk (decide (75 < 10)) ((75 : Nat) : Int)) := (congrArg (ra_Parse.f 600) (by kernel_rfl : (pre ++ dg 75) ++ post = T2 55 53)).trans (by kernel_rfl)
set_option maxHeartbeats 8000000 in
theorem q76 : ra_Parse.f 600 ((pre ++ dg 76) ++ post) = some (mk (decide (76 < 10)) ((76 : Nat) : Int)) := (congrArg (ra_Parse.f 600) (by kernel_rfl : (pre ++ dg 76) ++ post = T2 55 54)).trans (by kernel_rfl)
set_option maxHeartbeats 8000000 in
theorem q77 : ra_Parse.f 600 ((pre ++ dg 77) ++ post) = some (mk (decide (77 < 10)) ((77 : Nat) : Int)) := (congrArg (ra_Parse.f 600) (by kernel_rfl : (pre ++ dg 77) ++ post = T2 55 55)).trans (by kernel_rfl)
set_option maxHeartbeats 8000000 in
theorem q78 : ra_Parse.f 600 ((pre ++ dg 78) ++ post) = some (mk (decide (78 < 10)) ((78 : Nat) : Int)) := (congrArg (ra_Parse.f 600) (by kernel_rfl : (pre ++ dg 78) ++ post = T2 55 56)).trans (by kernel_rfl)
set_option maxHeartbeats 8000000 in
theorem q79 : ra_Parse.f 600 ((pre ++ dg 79) ++ post) = some (mk (decide (79 < 10)) ((79 : Nat) : Int)) := (congrArg (ra_Parse.f 600) (by kernel_rfl : (pre ++ dg 79) ++ post = T2 55 57)).trans (by kernel_rfl)
set_option maxHeartbeats 8000000 in
theorem q80 : ra_Parse.f 600 ((pre ++ dg 80) ++ post) = some (mk (decide (80 < 10)) ((80 : Nat) : Int)) := (congrArg (ra_Parse.f 600) (by kernel_rfl : (pre ++ dg 80) ++ post = T2 56 48)).trans (by kernel_rfl)
set_option maxHeartbeats 8000000 in
theorem q81 : ra_Parse.f 600 ((pre ++ dg 81) ++ post) = some (mk (decide (81 < 10)) ((81 : Nat) : Int)) := (congrArg (ra_Parse.f 600) (by kernel_rfl : (pre ++ dg 81) ++ post = T2 56 49)).trans (by kernel_rfl)
set_option maxHeartbeats 8000000 in
theorem q82 : ra_Parse.f 600 ((pre ++ dg 82) ++ post) = some (mk (decide (82 < 10)) ((82 : Nat) : Int)) := (congrArg (ra_Parse.f 600) (by kernel_rfl : (pre ++ dg 82) ++ post = T2 56 50)).trans (by kernel_rfl)
set_option maxHeartbeats 8000000 in
theorem q83 : ra_Parse.f 600 ((pre ++ dg 83) ++ post) = some (mk (decide (83 < 10)) ((83 : Nat) : Int)) := (congrArg (ra_Parse.f 600) (by kernel_rfl : (pre ++ dg 83) ++ post = T2 56 51)).trans (by kernel_rfl)
set_option maxHeartbeats 8000000 in
theorem q84 : ra_Parse.f 600 ((pre ++ dg 84) ++ post) = some (mk (decide (84 < 10)) ((84 : Nat) : Int)) := (congrArg (ra_Parse.f 600) (by kernel_rfl : (pre ++ dg 84) ++ post = T2 56 52)).trans (by kernel_rfl)
set_option maxHeartbeats 8000000 in
theorem q85 : ra_Parse.f 600 ((pre ++ dg 85) ++ post) = some (mk (decide (85 < 10)) ((85 : Nat) : Int)) := (congrArg (ra_Parse.f 600) (by kernel_rfl : (pre ++ dg 85) ++ post = T2 56 53)).trans (by kernel_rfl)
set_option maxHeartbeats 8000000 in
theorem q86 : ra_Parse.f 600 ((pre ++ dg 86) ++ post) = some (mk (decide (86 < 10)) ((86 : Nat) : Int)) := (congrArg (ra_Parse.f 600) (by kernel_rfl : (pre ++ dg 86) ++ post = T2 56 54)).trans (by kernel_rfl)
set_option maxHeartbeats 8000000 in
theorem q87 : ra_Parse.f 600 ((pre ++ dg 87) ++ post) = some (mk (decide (87 < 10)) ((87 : Nat) : Int)) := (congrArg (ra_Parse.f 600) (by kernel_rfl : (pre ++ dg 87) ++ post = T2 56 55)).trans (by kernel_rfl)
set_option maxHeartbeats 8000000 in
theorem q88 : ra_Parse.f 600 ((pre ++ dg 88) ++ post) = some (mk (decide (88 < 10)) ((88 : Nat) : Int)) := (congrArg (ra_Parse.f 600) (by kernel_rfl : (pre ++ dg 88) ++ post = T2 56 56)).trans (by kernel_rfl)
set_option maxHeartbeats 8000000 in
theorem q89 : ra_Parse.f 600 ((pre ++ dg 89) ++ post) = some (mk (decide (89 < 10)) ((89 : Nat) : Int)) := (congrArg (ra_Parse.f 600) (by kernel_rfl : (pre ++ dg 89) ++ post = T2 56 57)).trans (by kernel_rfl)
set_option maxHeartbeats 8000000 in
theorem q90 : ra_Parse.f 600 ((pre ++ dg 90) ++ post) = some (mk (decide (90 < 10)) ((90 : Nat) : Int)) := (congrArg (ra_Parse.f 600) (by kernel_rfl : (pre ++ dg 90) ++ post = T2 57 48)).trans (by kernel_rfl)
set_option maxHeartbeats 8000000 in
theorem q91 : ra_Parse.f 600 ((pre ++ dg 91) ++ post) = some (mk (decide (91 < 10)) ((91 : Nat) : Int)) := (congrArg (ra_Parse.f 600) (by kernel_rfl : (pre ++ dg 91) ++ post = T2 57 49)).trans (by kernel_rfl)
set_option maxHeartbeats 8000000 in
theorem q92 : ra_Parse.f 600 ((pre ++ dg 92) ++ post) = some (mk (decide (92 < 10)) ((92 : Nat) : Int)) := (congrArg (ra_Parse.f 600) (by kernel_rfl : (pre ++ dg 92) ++ post = T2 57 50)).trans (by kernel_rfl)
set_option maxHeartbeats 8000000 in
theorem q93 : ra_Parse.f 600 ((pre ++ dg 93) ++ post) = some (mk (decide (93 < 10)) ((93 : Nat) : Int)) := (congrArg (ra_Parse.f 600) (by kernel_rfl : (pre ++ dg 93) ++ post = T2 57 51)).trans (by kernel_rfl)
set_option maxHeartbeats 8000000 in
theorem q94 : ra_Parse.f 600 ((pre ++ dg 94) ++ post) = some (mk (decide (94 < 10)) ((94 : Nat) : Int)) := (congrArg (ra_Parse.f 600) (by kernel_rfl : (pre ++ dg 94) ++ post = T2 57 52)).trans (by kernel_rfl)
set_option maxHeartbeats 8000000 in
theorem q95 : ra_Parse.f 600 ((pre ++ dg 95) ++ post) = some (mk (decide (95 < 10)) ((95 : Nat) : Int)) := (congrArg (ra_Parse.f 600) (by kernel_rfl : (pre ++ dg 95) ++ post = T2 57 53)).trans (by kernel_rfl)
set_option maxHeartbeats 8000000 in
theorem q96 : ra_Parse.f 600 ((pre ++ dg 96) ++ post) = some (mk (decide (96 < 10)) ((96 : Nat) : Int)) := (congrArg (ra_Parse.f 600) (by kernel_rfl : (pre ++ dg 96) ++ post = T2 57 54)).trans (by kernel_rfl)
set_option maxHeartbeats 8000000 in
theorem q97 : ra_Parse.f 600 ((pre ++ dg 97) ++ post) = some (mk (decide (97 < 10)) ((97 : Nat) : Int)) := (congrArg (ra_Parse.f 600) (by kernel_rfl : (pre ++ dg 97) ++ post = T2 57 55)).trans (by kernel_rfl)
set_option maxHeartbeats 8000000 in
theorem q98 : ra_Parse.f 600 ((pre ++ dg 98) ++ post) = some (mk (decide (98 < 10)) ((98 : Nat) : Int)) := (congrArg (ra_Parse.f 600) (by kernel_rfl : (pre ++ dg 98) ++ post = T2 57 56)).trans (by kernel_rfl)
set_option maxHeartbeats 8000000 in
theorem q99 : ra_Parse.f 600 ((pre ++ dg 99) ++ post) = some (mk (decide (99 < 10)) ((99 : Nat) : Int)) := (congrArg (ra_Parse.f 600) (by kernel_rfl : (pre ++ dg 99) ++ post = T2 57 57)).trans (by kernel_rfl)
theorem parse_k (k : Nat) (hk : k < 100) : ra_Parse.f 600 ((pre ++ dg k) ++ post) = some (mk (decide (k < 10)) ((k : Nat) : Int)) := by
 by_cases h0 : k = 0
 ·
  subst h0; exact q0
 by_cases h1 : k = 1
 ·
  subst h1; exact q1
 by_cases h2 : k = 2
 ·
  subst h2; exact q2
 by_cases h3 : k = 3
 ·
  subst h3; exact q3
 by_cases h4 : k = 4
 ·
  subst h4; exact q4
 by_cases h5 : k = 5
 ·
  subst h5; exact q5
 by_cases h6 : k = 6
 ·
  subst h6; exact q6
 by_cases h7 : k = 7
 ·
  subst h7; exact q7
 by_cases h8 : k = 8
 ·
  subst h8; exact q8
 by_cases h9 : k = 9
 ·
  subst h9; exact q9
 by_cases h10 : k = 10
 ·
  subst h10; exact q10
 by_cases h11 : k = 11
 ·
  subst h11; exact q11
 by_cases h12 : k = 12
 ·
  subst h12; exact q12
 by_cases h13 : k = 13
 ·
  subst h13; exact q13
 by_cases h14 : k = 14
 ·
  subst h14; exact q14
 by_cases h15 : k = 15
 ·
  subst h15; exact q15
 by_cases h16 : k = 16
 ·
  subst h16; exact q16
 by_cases h17 : k = 17
 ·
  subst h17; exact q17
 by_cases h18 : k = 18
 ·
  subst h18; exact q18
 by_cases h19 : k = 19
 ·
  subst h19; exact q19
 by_cases h20 : k = 20
 ·
  subst h20; exact q20
 by_cases h21 : k = 21
 ·
  subst h21; exact q21
 by_cases h22 : k = 22
 ·
  subst h22; exact q22
 by_cases h23 : k = 23
 ·
  subst h23; exact q23
 by_cases h24 : k = 24
 ·
  subst h24; exact q24
 by_cases h25 : k = 25
 ·
  subst h25; exact q25
 by_cases h26 : k = 26
 ·
  subst h26; exact q26
 by_cases h27 : k = 27
 ·
  subst h27; exact q27
 by_cases h28 : k = 28
 ·
  subst h28; exact q28
 by_cases h29 : k = 29
 ·
  subst h29; exact q29
 by_cases h30 : k = 30
 ·
  subst h30; exact q30
 by_cases h31 : k = 31
 ·
  subst h31; exact q31
 by_cases h32 : k = 32
 ·
  subst h32; exact q32
 by_cases h33 : k = 33
 ·
  subst h33; exact q33
 by_cases h34 : k = 34
 ·
  subst h34; exact q34
 by_cases h35 : k = 35
 ·
  subst h35; exact q35
 by_cases h36 : k = 36
 ·
  subst h36; exact q36
 by_cases h37 : k = 37
 ·
  subst h37; exact q37
 by_cases h38 : k = 38
 ·
  subst h38; exact q38
 by_cases h39 : k = 39
 ·
  subst h39; exact q39
 by_cases h40 : k = 40
 ·
  subst h40; exact q40
 by_cases h41 : k = 41
 ·
  subst h41; exact q41
 by_cases h42 : k = 42
 ·
  subst h42; exact q42
 by_cases h43 : k = 43
 ·
  subst h43; exact q43
 by_cases h44 : k = 44
 ·
  subst h44; exact q44
 by_cases h45 : k = 45
 ·
  subst h45; exact q45
 by_cases h46 : k = 46
 ·
  subst h46; exact q46
 by_cases h47 : k = 47
 ·
  subst h47; exact q47
 by_cases h48 : k = 48
 ·
  subst h48; exact q48
 by_cases h49 : k = 49
 ·
  subst h49; exact q49
 by_cases h50 : k = 50
 ·
  subst h50; exact q50
 by_cases h51 : k = 51
 ·
  subst h51; exact q51
 by_cases h52 : k = 52
 ·
  subst h52; exact q52
 by_cases h53 : k = 53
 ·
  subst h53; exact q53
 by_cases h54 : k = 54
 ·
  subst h54; exact q54
 by_cases h55 : k = 55
 ·
  subst h55; exact q55
 by_cases h56 : k = 56
 ·
  subst h56; exact q56
 by_cases h57 : k = 57
 ·
  subst h57; exact q57
 by_cases h58 : k = 58
 ·
  subst h58; exact q58
 by_cases h59 : k = 59
 ·
  subst h59; exact q59
 by_cases h60 : k = 60
 ·
  subst h60; exact q60
 by_cases h61 : k = 61
 ·
  subst h61; exact q61
 by_cases h62 : k = 62
 ·
  subst h62; exact q62
 by_cases h63 : k = 63
 ·
  subst h63; exact q63
 by_cases h64 : k = 64
 ·
  subst h64; exact q64
 by_cases h65 : k = 65
 ·
  subst h65; exact q65
 by_cases h66 : k = 66
 ·
  subst h66; exact q66
 by_cases h67 : k = 67
 ·
  subst h67; exact q67
 by_cases h68 : k = 68
 ·
  subst h68; exact q68
 by_cases h69 : k = 69
 ·
  subst h69; exact q69
 by_cases h70 : k = 70
 ·
  subst h70; exact q70
 by_cases h71 : k = 71
 ·
  subst h71; exact q71
 by_cases h72 : k = 72
 ·
  subst h72; exact q72
 by_cases h73 : k = 73
 ·
  subst h73; exact q73
 by_cases h74 : k = 74
 ·
  subst h74; exact q74
 by_cases h75 : k = 75
 ·
  subst h75; exact q75
 by_cases h76 : k = 76
 ·
  subst h76; exact q76
 by_cases h77 : k = 77
 ·
  subst h77; exact q77
 by_cases h78 : k = 78
 ·
  subst h78; exact q78
 by_cases h79 : k = 79
 ·
  subst h79; exact q79
 by_cases h80 : k = 80
 ·
  subst h80; exact q80
 by_cases h81 : k = 81
 ·
  subst h81; exact q81
 by_cases h82 : k = 82
 ·
  subst h82; exact q82
 by_cases h83 : k = 83
 ·
  subst h83; exact q83
 by_cases h84 : k = 84
 ·
  subst h84; exact q84
 by_cases h85 : k = 85
 ·
  subst h85; exact q85
 by_cases h86 : k = 86
 ·
  subst h86; exact q86
 by_cases h87 : k = 87
 ·
  subst h87; exact q87
 by_cases h88 : k = 88
 ·
  subst h88; exact q88
 by_cases h89 : k = 89
 ·
  subst h89; exact q89
 by_cases h90 : k = 90
 ·
  subst h90; exact q90
 by_cases h91 : k = 91
 ·
  subst h91; exact q91
 by_cases h92 : k = 92
 ·
  subst h92; exact q92
 by_cases h93 : k = 93
 ·
  subst h93; exact q93
 by_cases h94 : k = 94
 ·
  subst h94; exact q94
 by_cases h95 : k = 95
 ·
  subst h95; exact q95
 by_cases h96 : k = 96
 ·
  subst h96; exact q96
 by_cases h97 : k = 97
 ·
  subst h97; exact q97
 by_cases h98 : k = 98
 ·
  subst h98; exact q98
 by_cases h99 : k = 99
 ·
  subst h99; exact q99
 omega
theorem size_all : (List.range 100).map (fun k => decide ((dg k).size ≤ 2)) = (List.range 100).map (fun _ => true) := by kernel_rfl
theorem digits_ev (k : Nat) (hk : k < 100) : Ev (fun n => aquiferref1_Digits.f n (k : Int)) (dg k) := Ev.of (fun n => aquiferref1_Digits.mono _ n) (k := 60) (List.map_inj_left.1 digits_all k (List.mem_range.2 hk))
theorem parse_ev (k : Nat) (hk : k < 100) : Ev (fun n => ra_Parse.f n ((pre ++ dg k) ++ post)) (mk (decide (k < 10)) (k : Int)) := Ev.of (fun n => ra_Parse.mono _ n) (k := 600) (parse_k k hk)
theorem size_le (k : Nat) (hk : k < 100) : (dg k).size ≤ 2 := of_decide_eq_true (List.map_inj_left.1 size_all k (List.mem_range.2 hk))
def L (b : Bool) (k : Int) : List Mod := [⟨(mk b k).1, (mk b k).2.1, (mk b k).2.2.1, (mk b k).2.2.2.1, (mk b k).2.2.2.2.1⟩]
def mem (x y : Int) : List Cell := [⟨nm, nx, x⟩, ⟨nm, ny, y⟩]
def prc (b : Bool) : Prc := (mk b 0).2.2.2.2.1.getD 0 z44
def W (b : Bool) : Stm := (prc b).f6.getD 0 z91
def s1 (b : Bool) : Stm := (W b).f10.getD 0 z91
def s2 (b : Bool) : Stm := (W b).f10.getD 1 z91
def s3 (b : Bool) : Stm := (W b).f10.getD 2 z91
theorem e0 (b : Bool) (k : Int) : (mk b k).2.2.2.2.2.1 = 0 := by cases b <;> kernel_rfl
theorem find_ok (b : Bool) (k : Int) : run_Run.find (L b k) nm np 0 = (prc b, true) := by cases b <;> kernel_rfl
theorem begin_ok (b : Bool) (k : Int) : rb_Begin.f 60 (L b k) = some (mem k 0) := by cases b <;> kernel_rfl
theorem prc1 (b : Bool) : (prc b).f1 = [] := by cases b <;> kernel_rfl
theorem prc6 (b : Bool) : (prc b).f6 = [W b] := by cases b <;> kernel_rfl
theorem W0 (b : Bool) : (W b).f0 = 6 := by cases b <;> kernel_rfl
theorem W10 (b : Bool) : (W b).f10 = [s1 b, s2 b, s3 b] := by cases b <;> kernel_rfl
theorem k1 (b : Bool) : (s1 b).f0 = 2 := by cases b <;> kernel_rfl
theorem k2 (b : Bool) : (s2 b).f0 = 2 := by cases b <;> kernel_rfl
theorem k3 (b : Bool) : (s3 b).f0 = 7 := by cases b <;> kernel_rfl
theorem t3 (b : Bool) : (s3 b).f3 = nt := by cases b <;> kernel_rfl
theorem evW (b : Bool) (x y : Int) : eval_Value.f 201 (W b).f8 (((W b).f8.length : Int) - 1) nm [] (mem x y) = some x := by cases b <;> kernel_rfl
theorem ev1 (b : Bool) (x y : Int) : eval_Value.f 200 (s1 b).f8 (((s1 b).f8.length : Int) - 1) nm [] (mem x y) = some (wrap64 (x - 1)) := by cases b <;> kernel_rfl
theorem ev2 (b : Bool) (x y : Int) : eval_Value.f 200 (s2 b).f8 (((s2 b).f8.length : Int) - 1) nm [] (mem x y) = some (wrap64 (y + 2)) := by cases b <;> kernel_rfl
theorem set1 (b : Bool) (x y v fu : Int) (tr : List ByteArray) (res : Int) : run_Run.setn 200 nm (s1 b).f2 (s1 b).f3 v (mem x y, fu, tr, [], res) = some (mem v y, fu, tr, [], res) := by cases b <;> kernel_rfl
theorem set2 (b : Bool) (x y v fu : Int) (tr : List ByteArray) (res : Int) : run_Run.setn 200 nm (s2 b).f2 (s2 b).f3 v (mem x y, fu, tr, [], res) = some (mem x v, fu, tr, [], res) := by cases b <;> kernel_rfl
theorem awaket : Ev (fun k => aquiferlaw22_awake.f k) true := Ev.of (fun k => aquiferlaw22_awake.mono k) (k := 400) (by kernel_rfl)
theorem stmt_succ (k : Nat) (mod : ByteArray) (s : Stm) (st : RT) : run_Run.stmt (k + 1) mod s st =
  (if st.2.1 = 0 then some (false, st)
  else if s.f0 = 2 then (eval_Value.f k s.f8 ((s.f8.length : Int) - 1) mod st.2.2.2.1 st.1).bind fun v => (run_Run.setn k mod s.f2 s.f3 v (run_Run.payd st)).bind fun st2 => some (true, st2)
  else if s.f0 = 3 then (eval_Value.f k s.f8 ((s.f8.length : Int) - 1) mod st.2.2.2.1 st.1).bind fun v => some (true, st.1, wrap64 (st.2.1 - 1), st.2.2.1, st.2.2.2.1, v)
  else if s.f0 = 5 then (eval_Value.f k s.f8 ((s.f8.length : Int) - 1) mod st.2.2.2.1 st.1).bind fun v => if v = 0 then run_Run.blk (run_Run.stmt k mod) st.2.2.2.1.length s.f11 (run_Run.payd st) else run_Run.blk (run_Run.stmt k mod) st.2.2.2.1.length s.f10 (run_Run.payd st)
  else if s.f0 = 6 then run_Run.lp (run_Run.stmt k mod) (fun st => eval_Value.f k s.f8 ((s.f8.length : Int) - 1) mod st.2.2.2.1 st.1) s.f10 k (run_Run.payd st)
  else if s.f0 = 7 then (if st.2.2.1.length < 8796093022000 then some (true, st.1, wrap64 (st.2.1 - 1), st.2.2.1 ++ [s.f3], st.2.2.2) else none)
  else if s.f0 = 8 then some (true, st.1, wrap64 (st.2.1 - 1), st.2.2.1, st.2.2.2.1, st.2.2.2.2)
  else none) := by rw [run_Run.stmt]
theorem payd_eq (m : List Cell) (fu : Int) (tr : List ByteArray) (loc : List Cell) (res : Int) : run_Run.payd (m, fu, tr, loc, res) = (m, wrap64 (fu - 1), tr, loc, res) := rfl
theorem st_zero (k : Nat) (mod : ByteArray) (s : Stm) (m : List Cell) (tr : List ByteArray) (loc : List Cell) (res : Int) : run_Run.stmt (k + 1) mod s (m, 0, tr, loc, res) = some (false, m, 0, tr, loc, res) := by
 rw [stmt_succ, if_pos rfl]
theorem st1r (b : Bool) (x y fu : Int) (tr : List ByteArray) (h : fu ≠ 0) : run_Run.stmt (200 + 1) nm (s1 b) (mem x y, fu, tr, [], 0) = some (true, mem (wrap64 (x - 1)) y, wrap64 (fu - 1), tr, [], 0) := by
 rw [stmt_succ, if_neg h, if_pos (k1 b)]
 have e := ev1 b x y
 dsimp only at e ⊢
 rw [e, Option.bind_some, payd_eq, set1, Option.bind_some]
theorem st2r (b : Bool) (x y fu : Int) (tr : List ByteArray) (h : fu ≠ 0) : run_Run.stmt (200 + 1) nm (s2 b) (mem x y, fu, tr, [], 0) = some (true, mem x (wrap64 (y + 2)), wrap64 (fu - 1), tr, [], 0) := by
 rw [stmt_succ, if_neg h, if_pos (k2 b)]
 have e := ev2 b x y
 dsimp only at e ⊢
 rw [e, Option.bind_some, payd_eq, set2, Option.bind_some]
theorem st3r (b : Bool) (x y fu : Int) (tr : List ByteArray) (h : fu ≠ 0) (hl : tr.length < 8796093022000) : run_Run.stmt (200 + 1) nm (s3 b) (mem x y, fu, tr, [], 0) = some (true, mem x y, wrap64 (fu - 1), tr ++ [nt], [], 0) := by
 have hk := k3 b
 rw [stmt_succ, if_neg h, if_neg (by rw [hk]; decide), if_neg (by rw [hk]; decide), if_neg (by rw [hk]; decide), if_neg (by rw [hk]; decide), if_pos hk]
 dsimp only
 rw [if_pos hl, t3]
theorem round_out (b : Bool) (x y fu : Int) (tr : List ByteArray) (h0 : 0 ≤ fu) (h1 : fu < 3) (hl : tr.length < 8796093022000) : ∃ st : RT, run_Run.blk (run_Run.stmt (200 + 1) nm) 0 [s1 b, s2 b, s3 b] (mem x y, fu, tr, [], 0) = some (false, st) ∧ st.2.1 = 0 := by
 by_cases e0 : fu = 0
 ·
  subst e0
  exact ⟨(mem x y, 0, tr, [], 0), by rw [run_Run.blk, st_zero, Option.bind_some, if_neg Bool.false_ne_true], rfl⟩
 ·
  by_cases e1 : fu = 1
  ·
   subst e1
   exact ⟨(mem (wrap64 (x - 1)) y, 0, tr, [], 0), by rw [run_Run.blk, st1r b x y 1 tr (by decide), Option.bind_some, if_pos rfl, run_Run.blk, show wrap64 ((1 : Int) - 1) = 0 from (w64 (by omega) (by omega)).trans (by omega), st_zero, Option.bind_some, if_neg Bool.false_ne_true], rfl⟩
  ·
   have e2 : fu = 2 := by omega
   subst e2
   exact ⟨(mem (wrap64 (x - 1)) (wrap64 (y + 2)), 0, tr, [], 0), by rw [run_Run.blk, st1r b x y 2 tr (by decide), Option.bind_some, if_pos rfl, run_Run.blk, show wrap64 ((2 : Int) - 1) = 1 from (w64 (by omega) (by omega)).trans (by omega), st2r b _ y 1 tr (by decide), Option.bind_some, if_pos rfl, run_Run.blk, show wrap64 ((1 : Int) - 1) = 0 from (w64 (by omega) (by omega)).trans (by omega), st_zero, Option.bind_some, if_neg Bool.false_ne_true], rfl⟩
theorem round_in (b : Bool) (x y fu : Int) (tr : List ByteArray) (h0 : 3 ≤ fu) (h1 : fu ≤ 1000) (hl : tr.length < 8796093022000) : run_Run.blk (run_Run.stmt (200 + 1) nm) 0 [s1 b, s2 b, s3 b] (mem x y, fu, tr, [], 0) = some (true, mem (wrap64 (x - 1)) (wrap64 (y + 2)), fu - 3, tr ++ [nt], [], 0) := by
 rw [run_Run.blk, st1r b x y fu tr (by omega), Option.bind_some, if_pos rfl, run_Run.blk, w64 (n := fu - 1) (by omega) (by omega), st2r b _ y (fu - 1) tr (by omega), Option.bind_some, if_pos rfl, run_Run.blk, w64 (n := fu - 1 - 1) (by omega) (by omega), st3r b _ _ (fu - 1 - 1) tr (by omega) hl, Option.bind_some, if_pos rfl, run_Run.blk, w64 (n := fu - 1 - 1 - 1) (by omega) (by omega), if_pos (Nat.zero_le _), show fu - 1 - 1 - 1 = fu - 3 by omega]
 rfl
abbrev evf (b : Bool) : RT → Option Int := fun st => eval_Value.f 201 (W b).f8 (((W b).f8.length : Int) - 1) nm st.2.2.2.1 st.1
theorem loop_spec (b : Bool) : ∀ (x : Nat) (y fu : Int) (tr : List ByteArray) (J : Nat), x < J → x ≤ 100 → 0 ≤ fu → fu ≤ 1000 → 0 ≤ y → y ≤ 1000 - 2 * (x : Int) → tr.length + x ≤ 1000 →
  (fu < 4 * (x : Int) + 1 → ∃ st : RT, run_Run.lp (run_Run.stmt (200 + 1) nm) (evf b) [s1 b, s2 b, s3 b] J (mem (x : Int) y, fu, tr, [], 0) = some (false, st) ∧ st.2.1 = 0) ∧
  (4 * (x : Int) + 1 ≤ fu → ∃ tr' : List ByteArray, tr'.length = tr.length + x ∧ run_Run.lp (run_Run.stmt (200 + 1) nm) (evf b) [s1 b, s2 b, s3 b] J (mem (x : Int) y, fu, tr, [], 0) = some (true, mem 0 (y + 2 * (x : Int)), fu - (4 * (x : Int) + 1), tr', [], 0)) := by
 intro x
 induction x with
 | zero =>
  intro y fu tr J hJ _ h0 h1 _ _ _
  obtain ⟨j, rfl⟩ : ∃ j, J = j + 1 := ⟨J - 1, by omega⟩
  constructor
  ·
   intro hf
   have e : fu = 0 := by omega
   subst e
   exact ⟨_, by rw [run_Run.lp, if_pos rfl], rfl⟩
  ·
   intro hf
   refine ⟨tr, by simp, ?_⟩
   rw [run_Run.lp, if_neg (by show ¬ fu = 0; omega), payd_eq]
   have e := evW b 0 y
   show (eval_Value.f 201 (W b).f8 (((W b).f8.length : Int) - 1) nm [] (mem 0 y)).bind _ = _
   rw [e, Option.bind_some, if_pos rfl, w64 (n := fu - 1) (by omega) (by omega)]
   simp
 | succ x ih =>
  intro y fu tr J hJ hx h0 h1 hy0 hy1 htl
  obtain ⟨j, rfl⟩ : ∃ j, J = j + 1 := ⟨J - 1, by omega⟩
  have hcast : ((x + 1 : Nat) : Int) = (x : Int) + 1 := by omega
  rw [hcast] at hy1 ⊢
  have hlt : tr.length < 8796093022000 := by omega
  have ee := evW b ((x : Int) + 1) y
  by_cases e0 : fu = 0
  ·
   subst e0
   constructor
   ·
    intro _
    exact ⟨_, by rw [run_Run.lp, if_pos rfl], rfl⟩
   ·
    intro hf; omega
  have step : ∀ r, (run_Run.blk (run_Run.stmt (200 + 1) nm) 0 [s1 b, s2 b, s3 b] (mem ((x : Int) + 1) y, fu - 1, tr, [], 0)).bind (fun q => if q.1 = true then run_Run.lp (run_Run.stmt (200 + 1) nm) (evf b) [s1 b, s2 b, s3 b] j q.2 else some (false, q.2)) = r → run_Run.lp (run_Run.stmt (200 + 1) nm) (evf b) [s1 b, s2 b, s3 b] (j + 1) (mem ((x : Int) + 1) y, fu, tr, [], 0) = r := by
   intro r hr
   rw [run_Run.lp, if_neg (by show ¬ fu = 0; exact e0), payd_eq]
   show (eval_Value.f 201 (W b).f8 (((W b).f8.length : Int) - 1) nm [] (mem ((x : Int) + 1) y)).bind _ = _
   rw [ee, Option.bind_some, if_neg (by omega), w64 (n := fu - 1) (by omega) (by omega)]
   exact hr
  by_cases h3 : fu - 1 < 3
  ·
   obtain ⟨st, hb, hst⟩ := round_out b ((x : Int) + 1) y (fu - 1) tr (by omega) h3 hlt
   constructor
   ·
    intro _
    exact ⟨st, step _ (by rw [hb, Option.bind_some, if_neg Bool.false_ne_true]), hst⟩
   ·
    intro hf; omega
  ·
   have hb := round_in b ((x : Int) + 1) y (fu - 1) tr (by omega) (by omega) hlt
   rw [w64 (n := (x : Int) + 1 - 1) (by omega) (by omega), w64 (n := y + 2) (by omega) (by omega), show (x : Int) + 1 - 1 = (x : Int) by omega, show fu - 1 - 3 = fu - 4 by omega] at hb
   obtain ⟨i1, i2⟩ := ih (y + 2) (fu - 4) (tr ++ [nt]) j (by omega) (by omega) (by omega) (by omega) (by omega) (by omega) (by simp; omega)
   constructor
   ·
    intro hf
    obtain ⟨st, hl, hst⟩ := i1 (by omega)
    exact ⟨st, step _ (by rw [hb, Option.bind_some, if_pos rfl]; exact hl), hst⟩
   ·
    intro hf
    obtain ⟨tr', ht, hl⟩ := i2 (by omega)
    refine ⟨tr', by rw [ht]; simp; omega, step _ ?_⟩
    rw [hb, Option.bind_some, if_pos rfl]
    show run_Run.lp (run_Run.stmt (200 + 1) nm) (evf b) [s1 b, s2 b, s3 b] j (mem (x : Int) (y + 2), fu - 4, tr ++ [nt], [], 0) = _
    rw [hl, show y + 2 + 2 * (x : Int) = y + 2 * ((x : Int) + 1) by omega, show fu - 4 - (4 * (x : Int) + 1) = fu - (4 * ((x : Int) + 1) + 1) by omega]
theorem clone (m : List Cell) (h : m.length ≤ 60) : api_Cell_27.f m = some m := by
 unfold api_Cell_27.f
 rw [if_pos (by omega)]
theorem run_body (b : Bool) (k : Int) (fu : Int) (q : Bool × RT) (h0 : 0 ≤ fu) (h1 : fu ≤ 1000) (h : run_Run.stmt (201 + 1) nm (W b) (mem k 0, fu, [], [], 0) = some q) :
  run_Run.f (201 + 1) (L b k) nm np [] (mem k 0) fu = (if q.1 = true then some (1, q.2.1, q.2.2.2.2.2, q.2.2.2.1, q.2.2.1) else some (2, q.2.1, 0, q.2.2.2.1, q.2.2.1)) := by
 have hb2 : run_Run.body (run_Run.stmt (201 + 1) nm) (prc b) [] (mem k 0) fu [] = some (q.2.2.2.2.2, q.1, q.2.1, q.2.2.1, q.2.2.2.1) := by
  unfold run_Run.body
  rw [prc1, prc6, if_pos (by decide)]
  show (run_Run.blk (run_Run.stmt (201 + 1) nm) 0 [W b] (mem k 0, fu, [], [], 0)).bind _ = _
  rw [run_Run.blk, h, Option.bind_some]
  obtain ⟨q1, q2, q3, q4, q5, q6⟩ := q
  cases q1 with
  | false => rfl
  | true =>
   show ((run_Run.blk (run_Run.stmt (201 + 1) nm) 0 [] (q2, q3, q4, q5, q6)).bind _) = _
   rw [run_Run.blk, if_pos (Nat.zero_le _)]
   rfl
 unfold run_Run.f
 rw [show (([] : List Int).length : Int) = 0 from rfl, find_ok]
 dsimp only
 rw [if_neg (by decide), if_neg (by omega), if_neg (by omega), clone _ (by show 2 ≤ 60; omega), Option.bind_some, hb2, Option.bind_some]
theorem run_out (b : Bool) (k : Nat) (hk : k < 100) (fu : Int) (h0 : 0 ≤ fu) (h600 : fu ≤ 600) (h1 : fu < 4 * (k : Int) + 2) : ∃ (m : List Cell) (r : Int) (tr : List ByteArray), Ev (fun n => run_Run.f n (L b (k : Int)) nm np [] (mem (k : Int) 0) fu) (2, m, r, tr, 0) := by
 have key : ∃ st : RT, run_Run.stmt (201 + 1) nm (W b) (mem (k : Int) 0, fu, [], [], 0) = some (false, st) ∧ st.2.1 = 0 := by
  by_cases e0 : fu = 0
  ·
   subst e0
   exact ⟨_, st_zero _ _ _ _ _ _ _, rfl⟩
  ·
   obtain ⟨i1, _⟩ := loop_spec b k 0 (fu - 1) [] 201 (by omega) (by omega) (by omega) (by omega) (by omega) (by omega) (by simp; omega)
   obtain ⟨st, hl, hst⟩ := i1 (by omega)
   refine ⟨st, ?_, hst⟩
   have hw := W0 b
   rw [stmt_succ, if_neg (by show ¬ fu = 0; exact e0), if_neg (by rw [hw]; decide), if_neg (by rw [hw]; decide), if_neg (by rw [hw]; decide), if_pos hw, payd_eq, W10, w64 (n := fu - 1) (by omega) (by omega)]
   exact hl
 obtain ⟨st, hs, hz⟩ := key
 have hr := run_body b (k : Int) fu (false, st) h0 (by omega) hs
 rw [if_neg Bool.false_ne_true] at hr
 dsimp only at hr
 rw [hz] at hr
 exact ⟨st.1, 0, st.2.2.1, Ev.of (fun n => run_Run.mono _ _ _ _ _ _ n) hr⟩
theorem run_in (b : Bool) (k : Nat) (hk : k < 100) (fu : Int) (h600 : fu ≤ 600) (h1 : 4 * (k : Int) + 2 ≤ fu) : ∃ (r : Int) (tr : List ByteArray), tr.length = k ∧ Ev (fun n => run_Run.f n (L b (k : Int)) nm np [] (mem (k : Int) 0) fu) (1, mem 0 (2 * (k : Int)), r, tr, fu - (4 * (k : Int) + 2)) := by
 obtain ⟨_, i2⟩ := loop_spec b k 0 (fu - 1) [] 201 (by omega) (by omega) (by omega) (by omega) (by omega) (by omega) (by simp; omega)
 obtain ⟨tr, ht, hl⟩ := i2 (by omega)
 have hw := W0 b
 have hs : run_Run.stmt (201 + 1) nm (W b) (mem (k : Int) 0, fu, [], [], 0) = some (true, mem 0 (0 + 2 * (k : Int)), fu - 1 - (4 * (k : Int) + 1), tr, [], 0) := by
  rw [stmt_succ, if_neg (by show ¬ fu = 0; omega), if_neg (by rw [hw]; decide), if_neg (by rw [hw]; decide), if_neg (by rw [hw]; decide), if_pos hw, payd_eq, W10, w64 (n := fu - 1) (by omega) (by omega)]
  exact hl
 have hr := run_body b (k : Int) fu _ (by omega) (by omega) hs
 rw [if_pos rfl] at hr
 dsimp only at hr
 rw [show (0 : Int) + 2 * (k : Int) = 2 * (k : Int) by omega, show fu - 1 - (4 * (k : Int) + 1) = fu - (4 * (k : Int) + 2) by omega] at hr
 exact ⟨0, tr, by rw [ht]; simp, Ev.of (fun n => run_Run.mono _ _ _ _ _ _ n) hr⟩
theorem get_x (y : Int) : Ev (fun n => rb_Get.f n (mem 0 y) nm nx) (0, true) := Ev.of (fun n => rb_Get.mono _ _ _ n) (k := 60) (by kernel_rfl)
theorem get_y (y : Int) : Ev (fun n => rb_Get.f n (mem 0 y) nm ny) (y, true) := Ev.of (fun n => rb_Get.mono _ _ _ n) (k := 60) (by kernel_rfl)
theorem begin_ev (b : Bool) (k : Int) : Ev (fun n => rb_Begin.f n (L b k)) (mem k 0) := Ev.of (fun n => rb_Begin.mono _ n) (begin_ok b k)
theorem wf_u8 {x : Int} (h : (Lit.int .u8 x).wf = true) : 0 ≤ x ∧ x ≤ 255 := by
 simp only [Lit.wf, IntKind.min, IntKind.max, IntKind.signed, IntKind.bits, Bool.and_eq_true, decide_eq_true_eq] at h
 simpa using h
theorem wf_u16 {x : Int} (h : (Lit.int .u16 x).wf = true) : 0 ≤ x ∧ x ≤ 65535 := by
 simp only [Lit.wf, IntKind.min, IntKind.max, IntKind.signed, IntKind.bits, Bool.and_eq_true, decide_eq_true_eq] at h
 simpa using h
theorem RunCounts : aquiferlaw22_RunCounts.Pure := by
 intro a0 a1 ha hb
 obtain ⟨p0, p1⟩ := wf_u8 ha
 obtain ⟨q0, q1⟩ := wf_u16 hb
 have hk1 := Int.tmod_lt_of_pos a0 (b := 100) (by omega)
 have hk0 := Int.tmod_nonneg (a := a0) 100 p0
 have hf1 := Int.tmod_lt_of_pos a1 (b := 600) (by omega)
 have hf0 := Int.tmod_nonneg (a := a1) 600 q0
 obtain ⟨k, hk⟩ : ∃ k : Nat, (k : Int) = a0.tmod 100 := ⟨(a0.tmod 100).toNat, by omega⟩
 obtain ⟨fu, hfu⟩ : ∃ fu : Int, fu = a1.tmod 600 := ⟨_, rfl⟩
 have kl : k < 100 := by omega
 have wa0 : wrap64 a0 = a0 := w64 (by omega) (by omega)
 have wa1 : wrap64 a1 = a1 := w64 (by omega) (by omega)
 obtain ⟨bb, hbb⟩ : ∃ bb, bb = decide (k < 10) := ⟨_, rfl⟩
 obtain ⟨K1, h1⟩ := digits_ev k kl
 obtain ⟨K2, h2⟩ := parse_ev k kl
 obtain ⟨K3, h3⟩ := begin_ev bb (k : Int)
 obtain ⟨K4, h4⟩ := awaket
 replace h1 : ∀ n, K1 ≤ n → aquiferref1_Digits.f n (k : Int) = some (dg k) := h1
 replace h2 : ∀ n, K2 ≤ n → ra_Parse.f n ((pre ++ dg k) ++ post) = some (mk bb (k : Int)) := by rw [hbb]; exact h2
 replace h3 : ∀ n, K3 ≤ n → rb_Begin.f n (L bb (k : Int)) = some (mem (k : Int) 0) := h3
 replace h4 : ∀ n, K4 ≤ n → aquiferlaw22_awake.f n = some true := h4
 have hsz := size_le k kl
 have hsz2 : (pre ++ dg k).size + 87 ≤ 9223372036854775807 := by
  rw [ByteArray.size_append]
  have : pre.size = 22 := by decide
  omega
 have wc : wrap64 (wrap64 (wrap64 (1 + (k : Int)) + 1) + wrap64 (3 * (k : Int))) = 4 * (k : Int) + 2 := by
  rw [w64 (n := 1 + (k : Int)) (by omega) (by omega), w64 (n := 1 + (k : Int) + 1) (by omega) (by omega), w64 (n := 3 * (k : Int)) (by omega) (by omega), w64 (by omega) (by omega)]
  omega
 by_cases hc : fu < 4 * (k : Int) + 2
 ·
  obtain ⟨m, r, tr, K5, h5⟩ := run_out bb k kl fu (by omega) (by omega) hc
  replace h5 : ∀ n, K5 ≤ n → run_Run.f n (L bb (k : Int)) nm np [] (mem (k : Int) 0) fu = some (2, m, r, tr, 0) := h5
  obtain ⟨n, n1, n2, n3, n4, n5⟩ : ∃ n, K1 ≤ n ∧ K2 ≤ n ∧ K3 ≤ n ∧ K4 ≤ n ∧ K5 ≤ n := ⟨max (max (max K1 K2) (max K3 K4)) K5, by omega, by omega, by omega, by omega, by omega⟩
  refine ⟨n, ?_⟩
  unfold aquiferlaw22_RunCounts.f
  rw [wa0, wa1, ← hk, ← hfu, h1 n n1, Option.bind_some, if_pos (by omega), if_pos hsz2, h2 n n2, Option.bind_some, Option.bind_some]
  change (rb_Begin.f n (L bb (k : Int))).bind _ = _
  rw [h3 n n3, Option.bind_some]
  change (run_Run.f n (L bb (k : Int)) nm np [] (mem (k : Int) 0) fu).bind _ = _
  rw [h5 n n5, Option.bind_some, if_pos (e0 bb (k : Int)), wc, if_pos hc, if_pos rfl, if_pos rfl, h4 n n4]
  rfl
 ·
  obtain ⟨r, tr, ht, K5, h5⟩ := run_in bb k kl fu (by omega) (by omega)
  replace h5 : ∀ n, K5 ≤ n → run_Run.f n (L bb (k : Int)) nm np [] (mem (k : Int) 0) fu = some (1, mem 0 (2 * (k : Int)), r, tr, fu - (4 * (k : Int) + 2)) := h5
  obtain ⟨K6, h6⟩ := get_x (2 * (k : Int))
  obtain ⟨K7, h7⟩ := get_y (2 * (k : Int))
  replace h6 : ∀ n, K6 ≤ n → rb_Get.f n (mem 0 (2 * (k : Int))) nm nx = some (0, true) := h6
  replace h7 : ∀ n, K7 ≤ n → rb_Get.f n (mem 0 (2 * (k : Int))) nm ny = some (2 * (k : Int), true) := h7
  obtain ⟨n, n1, n2, n3, n4, n5, n6, n7⟩ : ∃ n, K1 ≤ n ∧ K2 ≤ n ∧ K3 ≤ n ∧ K4 ≤ n ∧ K5 ≤ n ∧ K6 ≤ n ∧ K7 ≤ n := ⟨max (max (max (max K1 K2) (max K3 K4)) K5) (max K6 K7), by omega, by omega, by omega, by omega, by omega, by omega, by omega⟩
  refine ⟨n, ?_⟩
  unfold aquiferlaw22_RunCounts.f
  rw [wa0, wa1, ← hk, ← hfu, h1 n n1, Option.bind_some, if_pos (by omega), if_pos hsz2, h2 n n2, Option.bind_some, Option.bind_some]
  change (rb_Begin.f n (L bb (k : Int))).bind _ = _
  rw [h3 n n3, Option.bind_some]
  change (run_Run.f n (L bb (k : Int)) nm np [] (mem (k : Int) 0) fu).bind _ = _
  rw [h5 n n5, Option.bind_some, if_pos (e0 bb (k : Int)), wc, if_neg hc]
  dsimp only
  rw [h6 n n6, Option.bind_some, h7 n n7, Option.bind_some, if_pos rfl, if_pos (w64 (by omega) (by omega)).symm, if_pos rfl, if_pos (w64 (by omega) (by omega)).symm, if_pos (by rw [ht]), h4 n n4]
  rfl
end Go.Proofs.Ytcjnhnnfoadklaa.Pure
