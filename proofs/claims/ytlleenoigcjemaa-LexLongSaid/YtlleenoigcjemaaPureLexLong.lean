/- The statement LexLong over numbers: names of up to 20 and numbers of up to 9 bytes are tokens, longer ones and a text above the limit are told. No further condition. -/
import Derived.Test.YtlleenoigcjemaaQLexLongx3
import Derived.Test.YtlleenoigcjemaaNum
namespace Go.Proofs.Ytlleenoigcjemaa.Pure
open Go.RowKit Go.Proofs.Ytlleenoigcjemaa.QLexLong Go.Proofs.Ytlleenoigcjemaa.Num Go.Proofs.YtlleenoigcjemaaW.PrintWords Go.Proofs.YtlleenoigcjemaaW.PrintLast
namespace LexP
theorem w64 {n : Int} (h0 : 0 ≤ n) (h1 : n ≤ 100000) : wrap64 n = n := by unfold wrap64; omega
def rep (b : UInt8) (n : Nat) : ByteArray := ⟨(List.replicate n b).toArray⟩
theorem rep_on (b : UInt8) (n : Nat) : rep b n ++ (⟨#[b]⟩ : ByteArray) = rep b (n + 1) := by
  apply ByteArray.ext
  apply Array.ext'
  rw [ByteArray.data_append, Array.toList_append]
  show List.replicate n b ++ [b] = List.replicate (n + 1) b
  exact List.replicate_succ'.symm
theorem rep_size (b : UInt8) (n : Nat) : (rep b n).size = n := by simp [rep, ByteArray.size]
def txt (b : UInt8) (n : Nat) : ByteArray := ((⟨#[61, 32]⟩ : ByteArray) ++ rep b n) ++ (⟨#[32]⟩ : ByteArray)
def told (b : UInt8) (n : Nat) : Option (Int × Int) := (lex_Lex.f 60 (txt b n)).map fun r => (r.2.1, r.2.2)
theorem told_word : ∀ n < 31, 1 ≤ n → told 121 n = some (if n ≤ 20 then (0, 0) else (9, 2)) := by decide +kernel
theorem told_num : ∀ n < 31, 1 ≤ n → told 55 n = some (if n ≤ 9 then (0, 0) else (9, 2)) := by decide +kernel
theorem told_ev (b : UInt8) (n : Nat) (p : Int × Int) (h : told b n = some p) : ∃ l, Ev (fun k => lex_Lex.f k (txt b n)) (l, p.1, p.2) := by
  obtain ⟨r, h1, h2⟩ := Option.map_eq_some_iff.1 h
  subst h2
  exact ⟨r.1, Ev.of (fun k => lex_Lex.mono _ k) (k := 60) h1⟩
theorem strOfNums_size (l : List Int) : (strOfNums l).size = l.length := by simp [strOfNums, ByteArray.size]
theorem too_long (s : ByteArray) (h : s.size > 8192) : Ev (fun k => lex_Lex.f k s) (([] : List S49), 9, 8192) := by
  refine Ev.congr (fun k => ?_) (Ev.now _)
  unfold lex_Lex.f
  rw [if_pos (by omega)]
theorem awake_ev : Ev (fun k => aquiferlaw11_awake.f k) true := Ev.of aquiferlaw11_awake.mono (k := 60) (by decide +kernel)
theorem awake_ev2 : Ev (fun k => (aquiferlaw11_awake.f k).bind fun t => some t) true := Ev.bind (f := fun _ t => some t) awake_ev (Ev.now _)
theorem last_ev (n : Nat) (a b : Int × Int) (ha : a = if n ≤ 20 then (0, 0) else (9, 2)) (hb : b = if n ≤ 9 then (0, 0) else (9, 2)) : Ev (fun k => aquiferlaw11_LexLong.j2 k (n : Int) a.1 a.2 b.1 b.2 false) true := by
  refine Ev.step (fun k => ?_) awake_ev2
  subst ha hb
  by_cases h1 : n ≤ 9
  · have g1 : ((n : Int) ≤ 20) = True := eq_true (by omega)
    have g2 : ((n : Int) ≤ 9) = True := eq_true (by omega)
    rw [if_pos (show n ≤ 20 by omega), if_pos h1]
    simp only [aquiferlaw11_LexLong.j2, aquiferlaw1_Num.f, Option.bind_some, g1, g2, Bool.false_eq_true, reduceIte, Int.reduceEq]
  · have g2 : ((n : Int) ≤ 9) = False := eq_false (by omega)
    have g4 : ((n : Int) > 9) = True := eq_true (by omega)
    by_cases h2 : n ≤ 20
    · have g1 : ((n : Int) ≤ 20) = True := eq_true (by omega)
      rw [if_pos h2, if_neg h1]
      simp only [aquiferlaw11_LexLong.j2, aquiferlaw1_Num.f, Option.bind_some, g1, g2, g4, Bool.false_eq_true, reduceIte, Int.reduceEq]
    · have g1 : ((n : Int) ≤ 20) = False := eq_false (by omega)
      have g3 : ((n : Int) > 20) = True := eq_true (by omega)
      rw [if_neg h2, if_neg h1]
      simp only [aquiferlaw11_LexLong.j2, aquiferlaw1_Num.f, Option.bind_some, g1, g2, g3, g4, Bool.false_eq_true, reduceIte, Int.reduceEq]
theorem fill_ev (x0 x1 : Int) (h0 : 0 ≤ x0 ∧ x0 < 256) (n : Int) (p q r t : Int) (h : Ev (fun k => aquiferlaw11_LexLong.j2 k n p q r t false) true) : ∀ (d i : Nat) (l : List Int), i + d = 8193 → l.length = 8193 → Ev (fun k => aquiferlaw11_LexLong.l1 k x0 x1 n p q r t l (i : Int)) true := by
  intro d
  induction d with
  | zero =>
    intro i l hd hl
    have hw : wrap64 x0 = x0 := w64 h0.1 (by omega)
    have hs : (strOfNums (l.set x0.toNat x1)).size > 8192 := by rw [strOfNums_size, List.length_set]; omega
    refine Ev.step (fun k => ?_) (Ev.bind (f := fun k (b : (List S49) × Int × Int) => if b.2.1 = 9 then aquiferlaw11_LexLong.j2 k n p q r t (b.2.2 != 8192) else aquiferlaw11_LexLong.j2 k n p q r t true) (too_long _ hs) ?_)
    · simp only [aquiferlaw11_LexLong.l1]
      rw [if_neg (by omega), hw, if_pos (by omega), if_pos (by omega)]
      rfl
    · refine Ev.congr (fun k => ?_) h
      rw [if_pos rfl]
      rfl
  | succ d ih =>
    intro i l hd hl
    refine Ev.step (fun k => ?_) (ih (i + 1) (l.set i 32) (by omega) (by rw [List.length_set]; exact hl))
    simp only [aquiferlaw11_LexLong.l1]
    rw [if_pos (by omega), if_pos (by omega), w64 (by omega) (by omega), Int.toNat_natCast]
    rfl
theorem grow_ev (x0 x1 : Int) (h0 : 0 ≤ x0 ∧ x0 < 256) (n : Nat) (h1 : 1 ≤ n) (hn : n < 31) : ∀ d i, i + d = n → Ev (fun k => aquiferlaw11_LexLong.l0 k x0 x1 (n : Int) (rep 121 i) (rep 55 i) (i : Int)) true := by
  intro d
  induction d with
  | zero =>
    intro i hd
    obtain ⟨l, hl⟩ := told_ev 121 n _ (told_word n hn h1)
    obtain ⟨m, hm⟩ := told_ev 55 n _ (told_num n hn h1)
    have hi : i = n := by omega
    subst hi
    have e1 := rep_size 121 i
    have e2 := rep_size 55 i
    have e3 : ((⟨#[61, 32]⟩ : ByteArray) ++ rep 121 i).size = 2 + i := by rw [ByteArray.size_append, e1]; rfl
    have e4 : ((⟨#[61, 32]⟩ : ByteArray) ++ rep 55 i).size = 2 + i := by rw [ByteArray.size_append, e2]; rfl
    refine Ev.step (fun k => ?_) (Ev.bind (f := fun k (b : (List S49) × Int × Int) => (lex_Lex.f k (txt 55 i)).bind fun c => aquiferlaw11_LexLong.l1 k x0 x1 (i : Int) b.2.1 b.2.2 c.2.1 c.2.2 (List.replicate 8193 0) 0) hl (Ev.bind hm (fill_ev x0 x1 h0 _ _ _ _ _ (last_ev i _ _ rfl rfl) 8193 0 _ rfl (List.length_replicate ..))))
    simp only [aquiferlaw11_LexLong.l0]
    rw [if_neg (by omega), if_pos (by omega), if_pos (by omega)]
    refine congrArg _ (funext fun b => ?_)
    rw [if_pos (by omega), if_pos (by omega)]
    refine congrArg _ (funext fun c => ?_)
    rw [if_pos (by decide)]
  | succ d ih =>
    intro i hd
    refine Ev.step (fun k => ?_) (ih (i + 1) (by omega))
    have e1 := rep_size 121 i
    have e2 := rep_size 55 i
    simp only [aquiferlaw11_LexLong.l0]
    rw [if_pos (by omega), if_pos (by omega), if_pos (by omega), rep_on, rep_on, w64 (by omega) (by omega)]
    rfl
end LexP
open LexP in
theorem LexLong : aquiferlaw11_LexLong.Pure := by
  intro a0 a1 h0 _
  have r0 := wf_u8 h0
  have key : Ev (fun k => aquiferlaw11_LexLong.f k a0 a1) true := by
    refine Ev.congr (fun k => ?_) (grow_ev a0 a1 r0 (1 + (a0 % 30).toNat) (by omega) (by omega) _ 0 (Nat.zero_add _))
    unfold aquiferlaw11_LexLong.f
    rw [LexP.w64 r0.1 (by omega), Int.tmod_eq_emod_of_nonneg r0.1, LexP.w64 (by omega) (by omega), show (1 : Int) + a0 % 30 = ((1 + (a0 % 30).toNat : Nat) : Int) by omega]
    rfl
  exact key.rounds
end Go.Proofs.Ytlleenoigcjemaa.Pure
