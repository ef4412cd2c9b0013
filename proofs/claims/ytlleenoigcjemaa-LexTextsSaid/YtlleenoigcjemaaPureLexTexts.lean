/- The statement LexTexts over texts and lists: the tokens stand where their texts stand, blanks and remarks alone between them. No further condition. -/
import Derived.Test.YtlleenoigcjemaaQLexTextsx3
namespace Go.Proofs.Ytlleenoigcjemaa.Pure
open Go.RowKit Go.Proofs.Ytlleenoigcjemaa.QLexTexts Go.Proofs.YtlleenoigcjemaaW.PrintWords Go.Proofs.YtlleenoigcjemaaW.PrintLast
namespace LexP
theorem toL (s : ByteArray) : s.toList = s.data.toList := Lib.toList_data s
theorem w64 {n : Int} (h0 : 0 ≤ n) (h1 : n ≤ 100000) : wrap64 n = n := by unfold wrap64; omega
theorem bt_cut (s : ByteArray) (i e j : Nat) (h : i + j < e) (he : e ≤ s.size) : bt (s.extract i e) (j : Int) = bt s ((i + j : Nat) : Int) := by
  unfold bt
  simp only [Int.toNat_natCast]
  rw [dif_pos (by simp only [ByteArray.size_extract]; omega), dif_pos (by omega)]
  simp [ByteArray.getElem_extract]
theorem size_cut (s : ByteArray) (i e : Nat) (he : e ≤ s.size) : (s.extract i e).size = e - i := by
  simp only [ByteArray.size_extract]; omega
theorem nil_iff (s : ByteArray) : s.toList = [] ↔ s.size = 0 := by
  rw [toL]
  constructor
  · intro h
    rw [← data_length s, h]; rfl
  · intro h
    exact List.eq_nil_of_length_eq_zero (by rw [data_length s, h])
/-- Where a loop over the text stops. -/
theorem scan_ev {α : Type} (q : Int → Bool) (s : ByteArray) (g fin : Nat → Nat → Option α)
    (hstep : ∀ i, i < s.size → q (bt s (i : Int)) = true → ∀ k, g (k + 1) i = g k (i + 1))
    (hstop : ∀ i, i < s.size → q (bt s (i : Int)) = false → ∀ k, g (k + 1) i = fin k i)
    (hend : ∀ i, i = s.size → ∀ k, g (k + 1) i = fin k i) (r : α) : ∀ d i, i + d = s.size → Ev (fun k => fin k (lex_All.skip q s d i)) r → Ev (fun k => g k i) r := by
  intro d
  induction d with
  | zero =>
    intro i hd h
    exact Ev.step (fun k => hend i (by omega) k) h
  | succ d ih =>
    intro i hd h
    have hi : i < s.size := by omega
    unfold lex_All.skip at h
    rw [if_pos hi] at h
    cases hq : q (bt s (i : Int)) with
    | true =>
      rw [hq, if_pos rfl] at h
      exact Ev.step (fun k => hstep i hi hq k) (ih (i + 1) (by omega) h)
    | false =>
      rw [hq] at h
      exact Ev.step (fun k => hstop i hi hq k) h
theorem upto_ev {α : Type} (q : Int → Bool) (s : ByteArray) (g fin : Nat → Nat → Option α) (r : α) (i : Nat) (hi : i ≤ s.size)
    (hstep : ∀ i, i < s.size → q (bt s (i : Int)) = true → ∀ k, g (k + 1) i = g k (i + 1))
    (hstop : ∀ i, i < s.size → q (bt s (i : Int)) = false → ∀ k, g (k + 1) i = fin k i)
    (hend : ∀ i, i = s.size → ∀ k, g (k + 1) i = fin k i) (h : Ev (fun k => fin k (lex_All.upto q s i)) r) : Ev (fun k => g k i) r :=
  scan_ev q s g fin hstep hstop hend r _ i (by omega) h
theorem skip_end (q : Int → Bool) (s : ByteArray) : ∀ d i, i + d = s.size → lex_All.skip q s d i < s.size → q (bt s ((lex_All.skip q s d i : Nat) : Int)) = false := by
  intro d
  induction d with
  | zero =>
    intro i hd h
    simp only [lex_All.skip] at h
    omega
  | succ d ih =>
    intro i hd h
    have hi : i < s.size := by omega
    unfold lex_All.skip at h ⊢
    rw [if_pos hi] at h ⊢
    cases hq : q (bt s (i : Int)) with
    | true =>
      rw [hq, if_pos rfl] at h
      rw [if_pos rfl]
      exact ih (i + 1) (by omega) h
    | false => simp [hq]
theorem upto_end (q : Int → Bool) (s : ByteArray) (i : Nat) (hi : i ≤ s.size) (h : lex_All.upto q s i < s.size) : q (bt s ((lex_All.upto q s i : Nat) : Int)) = false := skip_end q s _ i (by omega) h
theorem upto_le (q : Int → Bool) (s : ByteArray) (i : Nat) (hi : i ≤ s.size) : i ≤ lex_All.upto q s i ∧ lex_All.upto q s i ≤ s.size := lex_All.skip_le q s _ i hi
theorem upto_on (q : Int → Bool) (s : ByteArray) (i : Nat) (hi : i < s.size) (hq : q (bt s (i : Int)) = true) : i + 1 ≤ lex_All.upto q s i := by
  unfold lex_All.upto
  rw [show s.size - i = (s.size - (i + 1)) + 1 by omega]
  unfold lex_All.skip
  rw [if_pos hi, hq, if_pos rfl]
  exact (lex_All.skip_le q s _ (i + 1) (by omega)).1
theorem within_eq (c : Int) : lex_All.within c = (lex_All.small c || (lex_All.digit c || c == 95)) := by
  have h := lex_All.within_f c
  unfold lex_within.f at h
  rw [lex_All.small_f, lex_All.digit_f] at h
  cases h1 : lex_All.small c <;> cases h2 : lex_All.digit c <;> simp_all
/-! ### The key words -/
def KW : List ByteArray := [(⟨#[109, 111, 100, 117, 108, 101]⟩ : ByteArray), (⟨#[105, 109, 112, 111, 114, 116]⟩ : ByteArray), (⟨#[118, 97, 114]⟩ : ByteArray), (⟨#[112, 114, 111, 99]⟩ : ByteArray), (⟨#[112, 99]⟩ : ByteArray), (⟨#[117, 115, 101, 115]⟩ : ByteArray), (⟨#[108, 101, 116]⟩ : ByteArray), (⟨#[99, 97, 108, 108]⟩ : ByteArray), (⟨#[105, 102]⟩ : ByteArray), (⟨#[101, 108, 115, 101]⟩ : ByteArray), (⟨#[119, 104, 105, 108, 101]⟩ : ByteArray), (⟨#[101, 109, 105, 116]⟩ : ByteArray), (⟨#[114, 101, 115, 117, 108, 116]⟩ : ByteArray), (⟨#[115, 107, 105, 112]⟩ : ByteArray), (⟨#[108, 97, 98, 101, 108, 115]⟩ : ByteArray)]
def find (w : ByteArray) : List ByteArray → Nat → Int
  | [], _ => -1
  | x :: t, j => if w.toList = x.toList then (j : Int) else find w t (j + 1)
theorem index_ev (l : List ByteArray) (w : ByteArray) (hl : l.length ≤ 1000) : ∀ d j, j + d = l.length → Ev (fun k => slices_Index_string_string.l0 k l w (l.length : Int) (j : Int)) (find w (l.drop j) j) := by
  intro d
  induction d with
  | zero =>
    intro j hd
    rw [List.drop_eq_nil_of_le (by omega)]
    refine Ev.step (f := fun _ => some (-1)) (fun k => ?_) (Ev.now _)
    simp only [slices_Index_string_string.l0]
    rw [if_neg (by omega)]
  | succ d ih =>
    intro j hd
    have hj : j < l.length := by omega
    have hr : rdOf ByteArray.empty l (j : Int) = l[j] := by simp [rdOf, List.getD_eq_getElem?_getD, hj]
    rw [List.drop_eq_getElem_cons hj]
    unfold find
    by_cases he : w.toList = (l[j]).toList
    · rw [if_pos he]
      refine Ev.step (f := fun _ => some (j : Int)) (fun k => ?_) (Ev.now _)
      simp only [slices_Index_string_string.l0]
      rw [if_pos (by omega), if_pos (by omega), if_pos (by omega), hr, if_pos he]
    · rw [if_neg he]
      refine Ev.step (fun k => ?_) (ih (j + 1) (by omega))
      simp only [slices_Index_string_string.l0]
      rw [if_pos (by omega), if_pos (by omega), if_pos (by omega), hr, if_neg he, w64 (by omega) (by omega)]
      rfl
theorem find_some (w : ByteArray) : ∀ (l : List ByteArray) (j : Nat), find w l j ≥ 0 → ∃ x ∈ l, w.toList = x.toList
  | [], j, h => by simp [find] at h
  | x :: t, j, h => by
    unfold find at h
    by_cases he : w.toList = x.toList
    · exact ⟨x, by simp, he⟩
    · rw [if_neg he] at h
      obtain ⟨y, hy, e⟩ := find_some w t (j + 1) h
      exact ⟨y, by simp [hy], e⟩
def isKey (w : ByteArray) : Bool := decide (find w KW 0 ≥ 0)
theorem key_ev (w : ByteArray) : Ev (fun k => lex_key.f k w) (isKey w) := by
  unfold lex_key.f slices_Contains_string_string.f slices_Index_string_string.f
  refine Ev.bind (f := fun _ t => some t) (a := isKey w) ?_ (Ev.now _)
  exact Ev.bind (f := fun _ (t : Int) => some (decide (t ≥ 0))) (index_ev KW w (by decide) 15 0 rfl) (Ev.now _)
theorem key_short (w : ByteArray) (h : isKey w = true) : w.size ≤ 20 := by
  unfold isKey at h
  obtain ⟨x, hx, e⟩ := find_some w KW 0 (of_decide_eq_true h)
  have h1 : w.size = x.size := by
    rw [← data_length w, ← data_length x, ← toL, ← toL, e]
  rw [h1]
  simp only [KW, List.mem_cons, List.not_mem_nil, or_false] at hx
  rcases hx with rfl | rfl | rfl | rfl | rfl | rfl | rfl | rfl | rfl | rfl | rfl | rfl | rfl | rfl | rfl <;> decide
/-! ### The signs -/
theorem prefix_f (x p : ByteArray) : strings_HasPrefix.f x p = some (decide (p.size ≤ x.size ∧ (x.extract 0 p.size).toList = p.toList)) := by
  unfold strings_HasPrefix.f stringslite_HasPrefix.f
  by_cases h : p.size ≤ x.size
  · rw [if_pos (by omega), if_pos (by omega), if_pos (by omega)]
    by_cases h2 : (x.extract 0 p.size).toList = p.toList <;> simp [h, h2]
  · rw [if_neg (by omega)]
    simp [h]
theorem byte_in : ∀ n : Nat, n < 256 → (decide (Lib.indexByte [40, 41, 123, 125, 44, 59, 58, 46, 61, 60, 43, 45, 42, 47, 37, 33] n.toUInt8 ≥ 0)) = decide (n = 40 ∨ n = 41 ∨ n = 123 ∨ n = 125 ∨ n = 44 ∨ n = 59 ∨ n = 58 ∨ n = 46 ∨ n = 61 ∨ n = 60 ∨ n = 43 ∨ n = 45 ∨ n = 42 ∨ n = 47 ∨ n = 37 ∨ n = 33) := by decide +kernel
def one (c : Int) : Prop := c = 40 ∨ c = 41 ∨ c = 123 ∨ c = 125 ∨ c = 44 ∨ c = 59 ∨ c = 58 ∨ c = 46 ∨ c = 61 ∨ c = 60 ∨ c = 43 ∨ c = 45 ∨ c = 42 ∨ c = 47 ∨ c = 37 ∨ c = 33
instance (c : Int) : Decidable (one c) := by unfold one; infer_instance
theorem one_f (c : Int) (h0 : 0 ≤ c) (h1 : c ≤ 255) : (Lib.indexByte [40, 41, 123, 125, 44, 59, 58, 46, 61, 60, 43, 45, 42, 47, 37, 33] c.toNat.toUInt8 ≥ 0) ↔ one c := by
  have h := decide_eq_decide.1 (byte_in c.toNat (by omega))
  rw [h]
  unfold one
  omega
def at1 (s : ByteArray) (i : Nat) : ByteArray := if one (bt s (i : Int)) then s.extract i (i + 1) else ⟨#[]⟩
def at2 (s : ByteArray) (i : Nat) : ByteArray :=
  if i + 1 < s.size ∧ ((s.extract i (i + 2)).toList = [61, 61] ∨ (s.extract i (i + 2)).toList = [60, 61] ∨ (s.extract i (i + 2)).toList = [45, 62]) then s.extract i (i + 2) else at1 s i
theorem ext_of {a b : ByteArray} (h : a.toList = b.toList) : a = b := by
  rw [toL, toL] at h
  cases a; cases b
  simpa using h
theorem rest_cut (s : ByteArray) (i n : Nat) (h : i + n ≤ s.size) : (s.extract i s.size).extract 0 n = s.extract i (i + n) := by
  rw [ByteArray.extract_extract]
  congr 1 <;> omega
theorem lex_sign_end (s : ByteArray) (i : Nat) (hi : i < s.size) (k : Nat) (y : List ByteArray) (n : Int) : lex_sign.l0 (k + 1) (s.extract i s.size) y n n = some (at1 s i) := by
  have hz : (s.extract i s.size).size = s.size - i := size_cut s i s.size (Nat.le_refl _)
  simp only [lex_sign.l0]
  rw [if_neg (by omega), if_neg (by rw [nil_iff]; omega), if_pos (by omega)]
  have hb : bt (s.extract i s.size) 0 = bt s (i : Int) := by
    have := bt_cut s i s.size 0 (by omega) (Nat.le_refl _)
    simpa using this
  rw [hb]
  unfold strings_IndexByte.f
  simp only [Option.bind_some]
  have h1 := one_f (bt s (i : Int)) (bt_range s _).1 (bt_range s _).2
  unfold at1
  by_cases h : one (bt s (i : Int))
  · rw [if_pos (h1.2 h), if_pos (by omega), if_pos (by omega), if_pos h, rest_cut s i 1 (by omega)]
  · rw [if_neg (fun e => h (h1.1 e)), if_neg h]
theorem sign_round (x : ByteArray) (y : List ByteArray) (j : Nat) (p : ByteArray) (hj : y[j]? = some p) (hl : y.length ≤ 1000) (r : ByteArray)
    (h1 : p.size ≤ x.size ∧ (x.extract 0 p.size).toList = p.toList → r = p) (h2 : ¬ (p.size ≤ x.size ∧ (x.extract 0 p.size).toList = p.toList) → Ev (fun k => lex_sign.l0 k x y (y.length : Int) ((j + 1 : Nat) : Int)) r) :
    Ev (fun k => lex_sign.l0 k x y (y.length : Int) (j : Int)) r := by
  obtain ⟨hlt, hp⟩ := List.getElem?_eq_some_iff.1 hj
  have hr : rdOf ByteArray.empty y (j : Int) = p := by simp [rdOf, List.getD_eq_getElem?_getD, hj]
  by_cases h : p.size ≤ x.size ∧ (x.extract 0 p.size).toList = p.toList
  · refine Ev.step (f := fun _ => some r) (fun k => ?_) (Ev.now _)
    simp only [lex_sign.l0]
    rw [if_pos (by omega), if_pos (by omega), if_pos (by omega), hr, prefix_f, decide_eq_true h, h1 h]
    rfl
  · refine Ev.step (fun k => ?_) (h2 h)
    simp only [lex_sign.l0]
    rw [if_pos (by omega), if_pos (by omega), if_pos (by omega), hr, prefix_f, decide_eq_false h, w64 (by omega) (by omega)]
    rfl
theorem lex_sign_ev (s : ByteArray) (i : Nat) (hi : i < s.size) : Ev (fun k => lex_sign.f k (s.extract i s.size)) (at2 s i) := by
  have hz : (s.extract i s.size).size = s.size - i := size_cut s i s.size (Nat.le_refl _)
  have key : ∀ p : ByteArray, p.size = 2 → (p.size ≤ (s.extract i s.size).size ∧ ((s.extract i s.size).extract 0 p.size).toList = p.toList ↔ i + 1 < s.size ∧ (s.extract i (i + 2)).toList = p.toList) := by
    intro p hp
    rw [hp, hz]
    constructor
    · rintro ⟨h1, h2⟩
      rw [rest_cut s i 2 (by omega)] at h2
      exact ⟨by omega, h2⟩
    · rintro ⟨h1, h2⟩
      rw [rest_cut s i 2 (by omega)]
      exact ⟨by omega, h2⟩
  have L : ∀ l : List UInt8, (⟨l.toArray⟩ : ByteArray).toList = l := fun l => by rw [toL]
  unfold lex_sign.f
  simp only [Option.bind_some]
  unfold at2
  have k0 := key (⟨#[61, 61]⟩ : ByteArray) rfl
  have k1 := key (⟨#[60, 61]⟩ : ByteArray) rfl
  have k2 := key (⟨#[45, 62]⟩ : ByteArray) rfl
  refine sign_round _ _ 0 (⟨#[61, 61]⟩ : ByteArray) rfl (by decide) _ (fun h => ?_) (fun h0 => ?_)
  · have h := k0.1 h
    rw [if_pos ⟨h.1, .inl (h.2.trans (L [61, 61]))⟩]
    exact ext_of h.2
  refine sign_round _ _ 1 (⟨#[60, 61]⟩ : ByteArray) rfl (by decide) _ (fun h => ?_) (fun h1 => ?_)
  · have h := k1.1 h
    rw [if_pos ⟨h.1, .inr (.inl (h.2.trans (L [60, 61])))⟩]
    exact ext_of h.2
  refine sign_round _ _ 2 (⟨#[45, 62]⟩ : ByteArray) rfl (by decide) _ (fun h => ?_) (fun h2 => ?_)
  · have h := k2.1 h
    rw [if_pos ⟨h.1, .inr (.inr (h.2.trans (L [45, 62])))⟩]
    exact ext_of h.2
  rw [if_neg (by
    rintro ⟨ha, h | h | h⟩
    · exact h0 (k0.2 ⟨ha, h.trans (L [61, 61]).symm⟩)
    · exact h1 (k1.2 ⟨ha, h.trans (L [60, 61]).symm⟩)
    · exact h2 (k2.2 ⟨ha, h.trans (L [45, 62]).symm⟩))]
  exact Ev.step (f := fun _ => some (at1 s i)) (fun k => lex_sign_end s i hi k _ 3) (Ev.now _)
theorem at1_size (s : ByteArray) (i : Nat) (hi : i < s.size) : i + (at1 s i).size ≤ s.size ∧ ((at1 s i).toList = [] ∨ 1 ≤ (at1 s i).size) := by
  unfold at1
  split
  · rw [size_cut s i (i + 1) (by omega)]
    exact ⟨by omega, .inr (by omega)⟩
  · exact ⟨by show i + 0 ≤ s.size; omega, .inl (by rw [nil_iff]; rfl)⟩
theorem at2_size (s : ByteArray) (i : Nat) (hi : i < s.size) : i + (at2 s i).size ≤ s.size ∧ ((at2 s i).toList = [] ∨ 1 ≤ (at2 s i).size) := by
  unfold at2
  split
  · rename_i h
    rw [size_cut s i (i + 2) (by omega)]
    exact ⟨by omega, .inr (by omega)⟩
  · exact at1_size s i hi
theorem at2_cut (s : ByteArray) (i : Nat) (hi : i < s.size) (h : (at2 s i).toList ≠ []) : at2 s i = s.extract i (i + (at2 s i).size) := by
  unfold at2 at h ⊢
  split
  · rename_i h1
    rw [size_cut s i (i + 2) (by omega)]
    congr 1
    omega
  · rename_i h1
    rw [if_neg h1] at h
    unfold at1 at h ⊢
    split
    · rw [size_cut s i (i + 1) (by omega)]
      congr 1
      omega
    · rename_i h2
      rw [if_neg h2] at h
      exact absurd ((nil_iff _).2 rfl) h
theorem word_some (w : ByteArray) : ∃ p : Int × Int, Ev (fun k => lex_word.f k w) p := by
  unfold lex_word.f
  refine ⟨if isKey w = true then (3, 0) else if (w.size : Int) > 20 then (0, 9) else (1, 0), Ev.bind (f := fun _ (t : Bool) => if t = true then some ((3 : Int), (0 : Int)) else if (w.size : Int) > 20 then some (0, 9) else some (1, 0)) (key_ev w) (Ev.congr (fun k => ?_) (Ev.now _))⟩
  split
  · rfl
  · split <;> rfl
theorem number_some (a b : ByteArray) (h : 0 < a.size) : ∃ p, lex_number.f 1 a b = some p := by
  have hj : ∀ x, ∃ p, lex_number.j0 1 b x = some p := by
    intro x
    simp only [lex_number.j0]
    by_cases h1 : x = true
    · rw [if_pos h1]; exact ⟨_, rfl⟩
    rw [if_neg h1]
    by_cases h2 : b.toList = []
    · rw [if_pos h2]; exact ⟨_, rfl⟩
    rw [if_neg h2, if_pos (by rw [nil_iff] at h2; omega), lex_All.within_f, Option.bind_some]
    cases lex_All.within (bt b 0) <;> exact ⟨_, rfl⟩
  unfold lex_number.f
  by_cases h9 : (a.size : Int) > 9
  · rw [if_pos h9]; exact ⟨_, rfl⟩
  rw [if_neg h9, if_pos (by omega)]
  by_cases h48 : bt a 0 = 48
  · rw [if_pos h48]; exact hj _
  · rw [if_neg h48]; exact hj _
theorem skip_all (q : Int → Bool) (s : ByteArray) : ∀ d i, ∀ j, i ≤ j → j < lex_All.skip q s d i → q (bt s (j : Int)) = true := by
  intro d
  induction d with
  | zero =>
    intro i j h1 h2
    simp only [lex_All.skip] at h2
    omega
  | succ d ih =>
    intro i j h1 h2
    unfold lex_All.skip at h2
    by_cases hi : i < s.size
    · rw [if_pos hi] at h2
      cases hq : q (bt s (i : Int)) with
      | true =>
        rw [hq, if_pos rfl] at h2
        by_cases he : j = i
        · rw [he]; exact hq
        · exact ih (i + 1) j (by omega) h2
      | false =>
        rw [hq, if_neg Bool.false_ne_true] at h2
        omega
    · rw [if_neg hi] at h2
      omega
abbrev Res : Type := (List S49) × Int × Int
abbrev Blank (c : Int) : Prop := c = 32 ∨ c = 9 ∨ c = 10 ∨ c = 13
/-- One step of the reader: a blank, a remark, an error, a token. -/
theorem lex_step (s : ByteArray) (i : Nat) (out : List S49) (hlt : i < s.size) (hl4 : out.length < 4398046511104) :
    (Blank (bt s (i : Int)) ∧ ∀ r : Res, Ev (fun k => lex_All.l0 k s out (i + 1)) r → Ev (fun k => lex_All.l0 k s out i) r) ∨
    (¬ Blank (bt s (i : Int)) ∧ bt s (i : Int) = 35 ∧ ∀ r : Res, Ev (fun k => lex_All.l0 k s out (lex_All.upto lex_All.nl s i)) r → Ev (fun k => lex_All.l0 k s out i) r) ∨
    (∃ er : Int, er ≠ 0 ∧ Ev (fun k => lex_All.l0 k s out i) (([] : List S49), er, (i : Int))) ∨
    (¬ Blank (bt s (i : Int)) ∧ bt s (i : Int) ≠ 35 ∧ ∃ (e : Nat) (kd : Int), i < e ∧ e ≤ s.size ∧ ∀ r : Res, Ev (fun k => lex_All.l0 k s (out ++ [⟨kd, s.extract i e, (i : Int)⟩]) e) r → Ev (fun k => lex_All.l0 k s out i) r) := by
  have hi : i ≤ s.size := Nat.le_of_lt hlt
  by_cases hb : Blank (bt s (i : Int))
  · refine .inl ⟨hb, fun r h => Ev.step (fun k => ?_) h⟩
    simp only [lex_All.l0]
    rw [if_pos hlt, if_pos hb]
  by_cases h35 : bt s (i : Int) = 35
  · refine .inr (.inl ⟨hb, h35, fun r h => Ev.step (fun k => ?_) h⟩)
    simp only [lex_All.l0]
    rw [if_pos hlt, if_neg hb, if_pos h35]
  refine .inr (.inr ?_)
  cases hsm : lex_All.small (bt s (i : Int)) with
  | true =>
    have hon := upto_on lex_All.within s i hlt (by rw [within_eq, hsm]; rfl)
    have hle := upto_le lex_All.within s i hi
    have hlex : ∀ k, lex_All.l0 (k + 1) s out i = ((lex_word.f k (s.extract i (lex_All.upto lex_All.within s i))).bind fun b => (if b.2 = 0 then (lex_All.l0 k s (out ++ [(⟨b.1, s.extract i (lex_All.upto lex_All.within s i), (i : Int)⟩ : S49)]) (lex_All.upto lex_All.within s i)) else (some (([] : List S49), b.2, (i : Int))))) := by
      intro k
      simp only [lex_All.l0]
      rw [if_pos hlt, if_neg hb, if_neg h35, if_pos hsm]
      simp only [if_pos hl4]
    obtain ⟨p, h1⟩ := word_some (s.extract i (lex_All.upto lex_All.within s i))
    by_cases he : p.2 = 0
    · refine .inr ⟨hb, h35, _, p.1, hon, hle.2, fun r h => Ev.step hlex (Ev.bind h1 ?_)⟩
      simp only [if_pos he]
      exact h
    · refine .inl ⟨p.2, he, Ev.step hlex (Ev.bind h1 ?_)⟩
      simp only [if_neg he]
      exact Ev.now _
  | false =>
  have hns : ¬ lex_All.small (bt s (i : Int)) = true := by rw [hsm]; decide
  cases hdg : lex_All.digit (bt s (i : Int)) with
  | true =>
    have hon := upto_on lex_All.digit s i hlt hdg
    have hle := upto_le lex_All.digit s i hi
    have hlex : ∀ k, lex_All.l0 (k + 1) s out i = ((lex_number.f k (s.extract i (lex_All.upto lex_All.digit s i)) (s.extract (lex_All.upto lex_All.digit s i) s.size)).bind fun b => (if b.2 = 0 then (lex_All.l0 k s (out ++ [(⟨b.1, s.extract i (lex_All.upto lex_All.digit s i), (i : Int)⟩ : S49)]) (lex_All.upto lex_All.digit s i)) else (some (([] : List S49), b.2, (i : Int))))) := by
      intro k
      simp only [lex_All.l0]
      rw [if_pos hlt, if_neg hb, if_neg h35, if_neg hns, if_pos hdg]
      simp only [if_pos hl4]
    obtain ⟨p, h1⟩ := number_some (s.extract i (lex_All.upto lex_All.digit s i)) (s.extract (lex_All.upto lex_All.digit s i) s.size) (by rw [size_cut s i _ hle.2]; omega)
    have h1 := Ev.of (fun k => lex_number.mono _ _ k) h1
    by_cases he : p.2 = 0
    · refine .inr ⟨hb, h35, _, p.1, hon, hle.2, fun r h => Ev.step hlex (Ev.bind h1 ?_)⟩
      simp only [if_pos he]
      exact h
    · refine .inl ⟨p.2, he, Ev.step hlex (Ev.bind h1 ?_)⟩
      simp only [if_neg he]
      exact Ev.now _
  | false =>
    have hnd : ¬ lex_All.digit (bt s (i : Int)) = true := by rw [hdg]; decide
    have hsz := at2_size s i hlt
    have hlex : ∀ k, lex_All.l0 (k + 1) s out i = (lex_sign.f k (s.extract i s.size)).bind fun t => (if i + t.size ≤ s.size then (if t.toList = [] then (some (([] : List S49), 10, (i : Int))) else (lex_All.l0 k s (out ++ [(⟨4, t, (i : Int)⟩ : S49)]) (i + t.size))) else none) := by
      intro k
      simp only [lex_All.l0]
      rw [if_pos hlt, if_neg hb, if_neg h35, if_neg hns, if_neg hnd]
      simp only [if_pos hl4]
    by_cases ht : (at2 s i).toList = []
    · refine .inl ⟨10, by decide, Ev.step hlex (Ev.bind (lex_sign_ev s i hlt) ?_)⟩
      simp only [if_pos ht, if_pos hsz.1]
      exact Ev.now _
    · have h1 := hsz.2.resolve_left ht
      refine .inr ⟨hb, h35, i + (at2 s i).size, 4, by omega, hsz.1, fun r h => Ev.step hlex (Ev.bind (lex_sign_ev s i hlt) ?_)⟩
      rw [← at2_cut s i hlt ht] at h
      simp only [if_neg ht, if_pos hsz.1]
      exact h
end LexP
namespace LexP
/-- Over d bytes from i: blanks and remarks alone; told is whether a remark is open at the end. -/
def scan (s : ByteArray) : Nat → Bool → Nat → Option Bool
  | 0, m, _ => some m
  | d + 1, m, i => if (m = true ∧ bt s (i : Int) ≠ 10) ∨ bt s (i : Int) = 35 then scan s d true (i + 1) else if Blank (bt s (i : Int)) then scan s d false (i + 1) else none
theorem scan_add (s : ByteArray) : ∀ (d e : Nat) (m : Bool) (i : Nat), scan s (d + e) m i = (scan s d m i).bind fun x => scan s e x (i + d) := by
  intro d
  induction d with
  | zero =>
    intro e m i
    simp only [Nat.zero_add, scan, Option.bind_some, Nat.add_zero]
  | succ d ih =>
    intro e m i
    rw [show d + 1 + e = (d + e) + 1 by omega]
    simp only [scan]
    rw [show i + (d + 1) = i + 1 + d by omega]
    split
    · exact ih e true (i + 1)
    · split
      · exact ih e false (i + 1)
      · rfl
theorem scan_remark (s : ByteArray) : ∀ (d i : Nat), (∀ j : Nat, i ≤ j → j < i + d → bt s (j : Int) ≠ 10) → scan s d true i = some true := by
  intro d
  induction d with
  | zero => intro i _; rfl
  | succ d ih =>
    intro i h
    simp only [scan]
    rw [if_pos (.inl ⟨trivial, h i (Nat.le_refl _) (by omega)⟩)]
    exact ih (i + 1) (fun j h1 h2 => h j (by omega) (by omega))
/-- What lies between n and i. -/
def Inv (s : ByteArray) (n i : Nat) : Prop := n ≤ i ∧ ∃ m, scan s (i - n) false n = some m ∧ (m = true → i < s.size → bt s (i : Int) = 10)
theorem inv_start (s : ByteArray) (i : Nat) : Inv s i i := ⟨Nat.le_refl _, false, by rw [Nat.sub_self]; rfl, fun h => absurd h (by decide)⟩
theorem inv_blank (s : ByteArray) (n i : Nat) (hlt : i < s.size) (hb : Blank (bt s (i : Int))) (h : Inv s n i) : Inv s n (i + 1) := by
  obtain ⟨h0, m, h1, h2⟩ := h
  refine ⟨by omega, false, ?_, fun h => absurd h (by decide)⟩
  rw [show i + 1 - n = (i - n) + 1 by omega, scan_add, h1, Option.bind_some, show n + (i - n) = i by omega]
  simp only [scan]
  have hb' := hb
  unfold Blank at hb'
  rw [if_neg (by
    rintro (⟨e, h⟩ | h)
    · exact h (h2 e hlt)
    · omega), if_pos hb]
theorem inv_remark (s : ByteArray) (n i : Nat) (hlt : i < s.size) (h35 : bt s (i : Int) = 35) (h : Inv s n i) : Inv s n (lex_All.upto lex_All.nl s i) := by
  obtain ⟨h0, m, h1, h2⟩ := h
  have hon := upto_on lex_All.nl s i hlt (by rw [h35]; rfl)
  have hend := upto_end lex_All.nl s i (Nat.le_of_lt hlt)
  have hall := skip_all lex_All.nl s (s.size - i) i
  generalize he : lex_All.upto lex_All.nl s i = e at hon hend
  have he2 : lex_All.skip lex_All.nl s (s.size - i) i = e := he
  rw [he2] at hall
  refine ⟨by omega, true, ?_, fun _ h => by simpa [lex_All.nl] using hend h⟩
  rw [show e - n = (i - n) + ((e - (i + 1)) + 1) by omega, scan_add, h1, Option.bind_some, show n + (i - n) = i by omega]
  simp only [scan]
  rw [if_pos (.inr h35)]
  exact scan_remark s _ (i + 1) (fun j h1 h2 => by simpa [lex_All.nl] using hall j (by omega) (by omega))
/-- The tokens stand where their texts stand. -/
def Chk (s : ByteArray) : Nat → List S49 → Prop
  | _, [] => False
  | n, t :: ts => ∃ (a : Nat) (m : Bool), n ≤ a ∧ scan s (a - n) false n = some m ∧ t.f2 = (a : Int) ∧ a + t.f1.size ≤ s.size ∧ s.extract a (a + t.f1.size) = t.f1 ∧
    ((ts = [] ∧ a = s.size ∧ t.f1.size = 0) ∨ (ts ≠ [] ∧ 0 < t.f1.size ∧ Chk s (a + t.f1.size) ts))
def Good (s : ByteArray) (out : List S49) (i : Nat) : Prop := ∃ r : Res, Ev (fun k => lex_All.l0 k s out i) r ∧ (r.2.1 ≠ 0 → r.1 = []) ∧ (r.2.1 = 0 → r.1.length ≤ 8193 ∧ ∃ more, r.1 = out ++ more ∧ ∀ n, Inv s n i → Chk s n more)
theorem chk_ne (s : ByteArray) (n : Nat) (l : List S49) (h : Chk s n l) : l ≠ [] := by
  intro e
  rw [e] at h
  exact h
theorem good_end (s : ByteArray) (hs : s.size ≤ 8192) (i : Nat) (out : List S49) (hi : i = s.size) (hl : out.length ≤ i) : Good s out i := by
  subst hi
  refine ⟨(out ++ [(⟨0, (⟨#[]⟩ : ByteArray), (s.size : Int)⟩ : S49)], 0, 0), ?_, fun h => absurd rfl h, fun _ => ⟨by rw [List.length_append, List.length_singleton]; omega, _, rfl, ?_⟩⟩
  · refine Ev.step (fun k => ?_) (Ev.now _)
    simp only [lex_All.l0]
    rw [if_neg (by omega), if_pos (by omega)]
  · rintro n ⟨h0, m, h1, _⟩
    refine ⟨s.size, m, h0, h1, rfl, Nat.le_refl _, ?_, .inl ⟨rfl, rfl, rfl⟩⟩
    apply ByteArray.ext
    apply Array.ext'
    apply List.eq_nil_of_length_eq_zero
    rw [data_length, ByteArray.size_extract]
    show min (s.size + 0) s.size - s.size = 0
    omega
theorem good (s : ByteArray) (hs : s.size ≤ 8192) : ∀ d i (out : List S49), s.size - i ≤ d → i ≤ s.size → out.length ≤ i → Good s out i := by
  intro d
  induction d with
  | zero =>
    intro i out hd hi hl
    exact good_end s hs i out (by omega) hl
  | succ d ih =>
    intro i out hd hi hl
    by_cases hlt : i < s.size
    case neg => exact good_end s hs i out (by omega) hl
    rcases lex_step s i out hlt (by omega) with ⟨hb, h⟩ | ⟨_, h35, h⟩ | ⟨er, he, h⟩ | ⟨_, _, e, kd, h1, h2, h⟩
    · obtain ⟨r, r1, r2, r3⟩ := ih (i + 1) out (by omega) (by omega) (by omega)
      refine ⟨r, h r r1, r2, fun h0 => ?_⟩
      obtain ⟨hlen, more, e1, e2⟩ := r3 h0
      exact ⟨hlen, more, e1, fun n hn => e2 n (inv_blank s n i hlt hb hn)⟩
    · have hon := upto_on lex_All.nl s i hlt (by rw [h35]; rfl)
      have hle := upto_le lex_All.nl s i hi
      obtain ⟨r, r1, r2, r3⟩ := ih (lex_All.upto lex_All.nl s i) out (by omega) hle.2 (by omega)
      refine ⟨r, h r r1, r2, fun h0 => ?_⟩
      obtain ⟨hlen, more, e1, e2⟩ := r3 h0
      exact ⟨hlen, more, e1, fun n hn => e2 n (inv_remark s n i hlt h35 hn)⟩
    · exact ⟨_, h, fun _ => rfl, fun h0 => absurd h0 he⟩
    · obtain ⟨r, r1, r2, r3⟩ := ih e (out ++ [⟨kd, s.extract i e, (i : Int)⟩]) (by omega) h2 (by rw [List.length_append, List.length_singleton]; omega)
      refine ⟨r, h r r1, r2, fun h0 => ?_⟩
      obtain ⟨hlen, more, e1, e2⟩ := r3 h0
      refine ⟨hlen, _ :: more, by rw [e1, List.append_assoc]; rfl, fun n hn => ?_⟩
      have hc := e2 e (inv_start s e)
      obtain ⟨h0', m, hm, _⟩ := hn
      have hsz := size_cut s i e h2
      refine ⟨i, m, h0', hm, rfl, ?_, ?_, .inr ⟨chk_ne s e more hc, ?_, ?_⟩⟩
      · show i + (s.extract i e).size ≤ s.size
        omega
      · show s.extract i (i + (s.extract i e).size) = s.extract i e
        rw [hsz, show i + (e - i) = e by omega]
      · show 0 < (s.extract i e).size
        omega
      · show Chk s (i + (s.extract i e).size) more
        rw [hsz, show i + (e - i) = e by omega]
        exact hc
/-- The law's scan between two tokens. -/
theorem clean_ev (s : ByteArray) (L : List S49) (x7 kd : Int) (txt : ByteArray) (a : Nat) (ha : a ≤ s.size) (hs : s.size ≤ 8192) (h : Ev (fun k => aquiferlaw11_LexTexts.l0 k s L (wrap64 ((a : Int) + (txt.size : Int))) (wrap64 (x7 + 1))) true) :
    ∀ (d : Nat) (m : Bool) (j : Nat), j + d = a → (∃ m', scan s d m j = some m') → Ev (fun k => aquiferlaw11_LexTexts.l1 k s L x7 m (j : Int) kd txt (a : Int)) true := by
  intro d
  induction d with
  | zero =>
    intro m j hd _
    refine Ev.step (fun k => ?_) h
    simp only [aquiferlaw11_LexTexts.l1]
    rw [if_neg (by omega)]
  | succ d ih =>
    intro m j hd hm
    obtain ⟨m', hm⟩ := hm
    simp only [scan] at hm
    have hw : wrap64 ((j : Int) + 1) = ((j + 1 : Nat) : Int) := by rw [w64 (by omega) (by omega)]; rfl
    have hl1 : ∀ k, aquiferlaw11_LexTexts.l1 (k + 1) s L x7 m (j : Int) kd txt (a : Int) = if (m = true ∧ bt s (j : Int) ≠ 10) ∨ bt s (j : Int) = 35 then aquiferlaw11_LexTexts.l1 k s L x7 true ((j + 1 : Nat) : Int) kd txt (a : Int) else if Blank (bt s (j : Int)) then aquiferlaw11_LexTexts.l1 k s L x7 false ((j + 1 : Nat) : Int) kd txt (a : Int) else some false := by
      intro k
      simp only [aquiferlaw11_LexTexts.l1]
      rw [if_pos (by omega), if_pos (by omega), if_pos (by omega), hw]
      generalize bt s (j : Int) = c
      unfold Blank
      cases m with
      | true =>
        rw [if_pos rfl]
        by_cases h10 : c = 10
        · subst h10
          rw [if_pos rfl, if_neg (by decide), if_neg (by decide), if_neg (by decide), if_neg (by omega), if_pos (by omega)]
          rfl
        · rw [if_neg h10, if_pos (.inl ⟨rfl, h10⟩)]
      | false =>
        rw [if_neg Bool.false_ne_true]
        by_cases h35 : c = 35
        · subst h35
          rw [if_pos rfl, if_pos (.inr rfl)]
          rfl
        · rw [if_neg h35, if_neg (show ¬ ((false = true ∧ c ≠ 10) ∨ c = 35) from fun e => e.elim (fun e => Bool.false_ne_true e.1) h35), beq_eq_false_iff_ne.mpr h35]
          by_cases h1 : c = 32
          · rw [if_pos h1, if_pos (.inl h1)]
          rw [if_neg h1]
          by_cases h2 : c = 9
          · rw [if_pos h2, if_pos (.inr (.inl h2))]
          rw [if_neg h2]
          by_cases h3 : c = 10
          · rw [if_pos h3, if_pos (.inr (.inr (.inl h3)))]
          rw [if_neg h3]
          by_cases h4 : c = 13
          · rw [if_pos h4, if_pos (.inr (.inr (.inr h4)))]
          rw [if_neg h4, if_neg (by omega)]
    by_cases h1 : (m = true ∧ bt s (j : Int) ≠ 10) ∨ bt s (j : Int) = 35
    · rw [if_pos h1] at hm
      exact Ev.step (fun k => (hl1 k).trans (if_pos h1)) (ih true (j + 1) (by omega) ⟨m', hm⟩)
    · rw [if_neg h1] at hm
      by_cases h2 : Blank (bt s (j : Int))
      · rw [if_pos h2] at hm
        exact Ev.step (fun k => (hl1 k).trans ((if_neg h1).trans (if_pos h2))) (ih false (j + 1) (by omega) ⟨m', hm⟩)
      · rw [if_neg h2] at hm
        cases hm
theorem awake_ev : Ev (fun k => aquiferlaw11_awake.f k) true := Ev.of aquiferlaw11_awake.mono (k := 60) (by decide +kernel)
theorem awake_ev2 : Ev (fun k => (aquiferlaw11_awake.f k).bind fun t => some t) true := Ev.bind (f := fun _ t => some t) awake_ev (Ev.now _)
theorem rd_mid (pre : List S49) (t : S49) (ts : List S49) : rd_T49 (pre ++ t :: ts) (pre.length : Int) = t := by
  simp [rd_T49, List.getD_eq_getElem?_getD]
theorem chk_ev (s : ByteArray) (hs : s.size ≤ 8192) (L : List S49) (hL : L.length ≤ 8193) : ∀ (ts : List S49) (pre : List S49) (n : Nat), L = pre ++ ts → Chk s n ts → Ev (fun k => aquiferlaw11_LexTexts.l0 k s L (n : Int) (pre.length : Int)) true := by
  intro ts
  induction ts with
  | nil => intro pre n _ h; exact h.elim
  | cons t ts ih =>
    intro pre n e h
    obtain ⟨a, m, hn, hm, hf2, hsz, hext, hcase⟩ := h
    have hrd : rd_T49 L (pre.length : Int) = t := by rw [e]; exact rd_mid pre t ts
    have hlen : L.length = pre.length + (ts.length + 1) := by rw [e, List.length_append, List.length_cons]
    have hw : wrap64 ((a : Int) + (t.f1.size : Int)) = ((a + t.f1.size : Nat) : Int) := by rw [w64 (by omega) (by omega)]; omega
    have hw1 : wrap64 ((pre.length : Int) + 1) = ((pre ++ [t]).length : Int) := by rw [w64 (by omega) (by omega), List.length_append, List.length_singleton]; omega
    have hwl : wrap64 ((L.length : Int) - 1) = (L.length : Int) - 1 := w64 (by omega) (by omega)
    have hcond : ((t.f1.toList == ([] : List UInt8)) != ((pre.length : Int) == (wrap64 ((L.length : Int) - 1)))) = false := by
      rw [hwl]
      rcases hcase with ⟨h1, _, h3⟩ | ⟨h1, h3, _⟩
      · have hz : t.f1.toList = [] := (nil_iff _).2 h3
        rw [h1] at hlen
        have : (pre.length : Int) = (L.length : Int) - 1 := by rw [hlen]; simp
        rw [hz, ← this]
        simp
      · have hz : ¬ t.f1.toList = [] := fun h => by rw [nil_iff] at h; omega
        have hp : 0 < ts.length := List.length_pos_iff.2 h1
        rw [beq_eq_false_iff_ne.mpr hz, beq_eq_false_iff_ne.mpr (by omega)]
        rfl
    have hnext : Ev (fun k => aquiferlaw11_LexTexts.l0 k s L (wrap64 ((a : Int) + (t.f1.size : Int))) (wrap64 ((pre.length : Int) + 1))) true := by
      rw [hw, hw1]
      rcases hcase with ⟨h1, h2, h3⟩ | ⟨h1, h3, h4⟩
      · refine Ev.step (fun k => ?_) awake_ev2
        rw [h1] at hlen
        have hlen2 : L.length = pre.length + 1 := by rw [hlen]; rfl
        simp only [aquiferlaw11_LexTexts.l0]
        rw [if_neg (by rw [List.length_append, List.length_singleton]; omega), if_pos (by omega), hwl, if_pos (by omega), if_pos (by omega), show (L.length : Int) - 1 = (pre.length : Int) by omega, hrd, hf2, if_pos (by omega)]
      · exact ih (pre ++ [t]) _ (by rw [e, List.append_assoc]; rfl) h4
    refine Ev.step (fun k => ?_) (Ev.step (f := fun k => aquiferlaw11_LexTexts.l1 k s L (pre.length : Int) false (n : Int) t.f0 t.f1 t.f2) (g := fun k => aquiferlaw11_LexTexts.j1 k s L (n : Int) (pre.length : Int) false t.f0 t.f1 t.f2) (fun k => ?_) ?_)
    · simp only [aquiferlaw11_LexTexts.l0]
      rw [if_pos (by omega), if_pos (by omega), hrd, hf2, hw, if_neg (by omega), if_neg (by omega), if_pos (by omega), if_pos (by omega), if_pos (by omega), Int.toNat_natCast, Int.toNat_natCast, hext, if_pos rfl, hcond]
    · simp only [aquiferlaw11_LexTexts.j1]
      rw [if_neg Bool.false_ne_true]
    · rw [hf2]
      exact clean_ev s L _ _ _ a (by omega) hs hnext (a - n) false n (by omega) ⟨m, hm⟩
end LexP
open LexP in
theorem LexTexts : aquiferlaw11_LexTexts.Pure := by
  intro a0 h
  have key : Ev (fun k => aquiferlaw11_LexTexts.f k a0) true := by
    by_cases hs : (a0.size : Int) > 2000
    · refine Ev.congr (fun k => ?_) awake_ev2
      unfold aquiferlaw11_LexTexts.f
      rw [if_pos hs]
    · obtain ⟨r, r1, r2, r3⟩ := good a0 (by omega) a0.size 0 [] (by omega) (by omega) (Nat.zero_le _)
      have hlex : Ev (fun k => lex_Lex.f k a0) r := by
        refine Ev.congr (f := fun k => (lex_All.l0 k a0 [] 0).bind fun (b : Res) => some (b.1, b.2.1, b.2.2)) (fun k => ?_) (Ev.bind r1 (Ev.now _))
        unfold lex_Lex.f lex_All.f
        rw [if_neg (by omega), if_pos h]
      refine Ev.congr (f := fun k => (lex_Lex.f k a0).bind fun b => if b.2.1 = 0 then aquiferlaw11_LexTexts.l0 k a0 b.1 0 0 else if (b.1.length : Int) = 0 then (aquiferlaw11_awake.f k).bind fun t => some t else some false) (fun k => ?_) (Ev.bind hlex ?_)
      · unfold aquiferlaw11_LexTexts.f
        rw [if_neg hs]
        rfl
      · by_cases he : r.2.1 = 0
        · obtain ⟨hlen, more, e1, e2⟩ := r3 he
          refine Ev.congr (fun k => ?_) (chk_ev a0 (by omega) r.1 hlen r.1 [] 0 rfl (by rw [e1]; exact e2 0 (inv_start a0 0)))
          rw [if_pos he]
          rfl
        · refine Ev.congr (fun k => ?_) awake_ev2
          rw [if_neg he, r2 he, if_pos (show ((([] : List S49).length : Nat) : Int) = 0 from rfl)]
  exact key.rounds
end Go.Proofs.Ytlleenoigcjemaa.Pure
