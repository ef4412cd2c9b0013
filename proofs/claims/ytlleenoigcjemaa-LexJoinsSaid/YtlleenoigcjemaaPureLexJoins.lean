/- The statement LexJoins over texts and lists: two texts without an error, a line's end between, have the tokens of the first and those of the second. No further condition. -/
import Derived.Test.YtlleenoigcjemaaQLexJoinsx4
namespace Go.Proofs.Ytlleenoigcjemaa.Pure
open Go.RowKit Go.Proofs.Ytlleenoigcjemaa.QLexJoins Go.Proofs.YtlleenoigcjemaaW.PrintWords Go.Proofs.YtlleenoigcjemaaW.PrintLast
namespace LexP
theorem toL (s : ByteArray) : s.toList = s.data.toList := Lib.toList_data s
theorem w64 {n : Int} (h0 : 0 ≤ n) (h1 : n ≤ 100000) : wrap64 n = n := by unfold wrap64; omega
theorem bt_cut (s : ByteArray) (i e j : Nat) (h : i + j < e) (he : e ≤ s.size) : bt (s.extract i e) (j : Int) = bt s ((i + j : Nat) : Int) := by
  unfold bt
  simp only [Int.toNat_natCast]
  rw [dif_pos (by simp only [ByteArray.size_extract]; omega), dif_pos (by omega)]
  simp [ByteArray.getElem_extract]
theorem size_cut (s : ByteArray) (i e : Nat) (he : e ≤ s.size) : (s.extract i e).size = e - i := by
  simp only [ByteArray.size_extract]; omega
theorem nil_iff (s : ByteArray) : s.toList = [] ↔ s.size = 0 := by
  rw [toL]
  constructor
  · intro h
    rw [← data_length s, h]; rfl
  · intro h
    exact List.eq_nil_of_length_eq_zero (by rw [data_length s, h])
/-- Where a loop over the text stops. -/
theorem scan_ev {α : Type} (q : Int → Bool) (s : ByteArray) (g fin : Nat → Nat → Option α)
    (hstep : ∀ i, i < s.size → q (bt s (i : Int)) = true → ∀ k, g (k + 1) i = g k (i + 1))
    (hstop : ∀ i, i < s.size → q (bt s (i : Int)) = false → ∀ k, g (k + 1) i = fin k i)
    (hend : ∀ i, i = s.size → ∀ k, g (k + 1) i = fin k i) (r : α) : ∀ d i, i + d = s.size → Ev (fun k => fin k (lex_All.skip q s d i)) r → Ev (fun k => g k i) r := by
  intro d
  induction d with
  | zero =>
    intro i hd h
    exact Ev.step (fun k => hend i (by omega) k) h
  | succ d ih =>
    intro i hd h
    have hi : i < s.size := by omega
    unfold lex_All.skip at h
    rw [if_pos hi] at h
    cases hq : q (bt s (i : Int)) with
    | true =>
      rw [hq, if_pos rfl] at h
      exact Ev.step (fun k => hstep i hi hq k) (ih (i + 1) (by omega) h)
    | false =>
      rw [hq] at h
      exact Ev.step (fun k => hstop i hi hq k) h
theorem upto_ev {α : Type} (q : Int → Bool) (s : ByteArray) (g fin : Nat → Nat → Option α) (r : α) (i : Nat) (hi : i ≤ s.size)
    (hstep : ∀ i, i < s.size → q (bt s (i : Int)) = true → ∀ k, g (k + 1) i = g k (i + 1))
    (hstop : ∀ i, i < s.size → q (bt s (i : Int)) = false → ∀ k, g (k + 1) i = fin k i)
    (hend : ∀ i, i = s.size → ∀ k, g (k + 1) i = fin k i) (h : Ev (fun k => fin k (lex_All.upto q s i)) r) : Ev (fun k => g k i) r :=
  scan_ev q s g fin hstep hstop hend r _ i (by omega) h
theorem skip_end (q : Int → Bool) (s : ByteArray) : ∀ d i, i + d = s.size → lex_All.skip q s d i < s.size → q (bt s ((lex_All.skip q s d i : Nat) : Int)) = false := by
  intro d
  induction d with
  | zero =>
    intro i hd h
    simp only [lex_All.skip] at h
    omega
  | succ d ih =>
    intro i hd h
    have hi : i < s.size := by omega
    unfold lex_All.skip at h ⊢
    rw [if_pos hi] at h ⊢
    cases hq : q (bt s (i : Int)) with
    | true =>
      rw [hq, if_pos rfl] at h
      rw [if_pos rfl]
      exact ih (i + 1) (by omega) h
    | false => simp [hq]
theorem upto_end (q : Int → Bool) (s : ByteArray) (i : Nat) (hi : i ≤ s.size) (h : lex_All.upto q s i < s.size) : q (bt s ((lex_All.upto q s i : Nat) : Int)) = false := skip_end q s _ i (by omega) h
theorem upto_le (q : Int → Bool) (s : ByteArray) (i : Nat) (hi : i ≤ s.size) : i ≤ lex_All.upto q s i ∧ lex_All.upto q s i ≤ s.size := lex_All.skip_le q s _ i hi
theorem upto_on (q : Int → Bool) (s : ByteArray) (i : Nat) (hi : i < s.size) (hq : q (bt s (i : Int)) = true) : i + 1 ≤ lex_All.upto q s i := by
  unfold lex_All.upto
  rw [show s.size - i = (s.size - (i + 1)) + 1 by omega]
  unfold lex_All.skip
  rw [if_pos hi, hq, if_pos rfl]
  exact (lex_All.skip_le q s _ (i + 1) (by omega)).1
theorem within_eq (c : Int) : lex_All.within c = (lex_All.small c || (lex_All.digit c || c == 95)) := by
  have h := lex_All.within_f c
  unfold lex_within.f at h
  rw [lex_All.small_f, lex_All.digit_f] at h
  cases h1 : lex_All.small c <;> cases h2 : lex_All.digit c <;> simp_all
/-! ### The key words -/
def KW : List ByteArray := [(⟨#[109, 111, 100, 117, 108, 101]⟩ : ByteArray), (⟨#[105, 109, 112, 111, 114, 116]⟩ : ByteArray), (⟨#[118, 97, 114]⟩ : ByteArray), (⟨#[112, 114, 111, 99]⟩ : ByteArray), (⟨#[112, 99]⟩ : ByteArray), (⟨#[117, 115, 101, 115]⟩ : ByteArray), (⟨#[108, 101, 116]⟩ : ByteArray), (⟨#[99, 97, 108, 108]⟩ : ByteArray), (⟨#[105, 102]⟩ : ByteArray), (⟨#[101, 108, 115, 101]⟩ : ByteArray), (⟨#[119, 104, 105, 108, 101]⟩ : ByteArray), (⟨#[101, 109, 105, 116]⟩ : ByteArray), (⟨#[114, 101, 115, 117, 108, 116]⟩ : ByteArray), (⟨#[115, 107, 105, 112]⟩ : ByteArray), (⟨#[108, 97, 98, 101, 108, 115]⟩ : ByteArray)]
def find (w : ByteArray) : List ByteArray → Nat → Int
  | [], _ => -1
  | x :: t, j => if w.toList = x.toList then (j : Int) else find w t (j + 1)
theorem index_ev (l : List ByteArray) (w : ByteArray) (hl : l.length ≤ 1000) : ∀ d j, j + d = l.length → Ev (fun k => slices_Index_string_string.l0 k l w (l.length : Int) (j : Int)) (find w (l.drop j) j) := by
  intro d
  induction d with
  | zero =>
    intro j hd
    rw [List.drop_eq_nil_of_le (by omega)]
    refine Ev.step (f := fun _ => some (-1)) (fun k => ?_) (Ev.now _)
    simp only [slices_Index_string_string.l0]
    rw [if_neg (by omega)]
  | succ d ih =>
    intro j hd
    have hj : j < l.length := by omega
    have hr : rdOf ByteArray.empty l (j : Int) = l[j] := by simp [rdOf, List.getD_eq_getElem?_getD, hj]
    rw [List.drop_eq_getElem_cons hj]
    unfold find
    by_cases he : w.toList = (l[j]).toList
    · rw [if_pos he]
      refine Ev.step (f := fun _ => some (j : Int)) (fun k => ?_) (Ev.now _)
      simp only [slices_Index_string_string.l0]
      rw [if_pos (by omega), if_pos (by omega), if_pos (by omega), hr, if_pos he]
    · rw [if_neg he]
      refine Ev.step (fun k => ?_) (ih (j + 1) (by omega))
      simp only [slices_Index_string_string.l0]
      rw [if_pos (by omega), if_pos (by omega), if_pos (by omega), hr, if_neg he, w64 (by omega) (by omega)]
      rfl
theorem find_some (w : ByteArray) : ∀ (l : List ByteArray) (j : Nat), find w l j ≥ 0 → ∃ x ∈ l, w.toList = x.toList
  | [], j, h => by simp [find] at h
  | x :: t, j, h => by
    unfold find at h
    by_cases he : w.toList = x.toList
    · exact ⟨x, by simp, he⟩
    · rw [if_neg he] at h
      obtain ⟨y, hy, e⟩ := find_some w t (j + 1) h
      exact ⟨y, by simp [hy], e⟩
def isKey (w : ByteArray) : Bool := decide (find w KW 0 ≥ 0)
theorem key_ev (w : ByteArray) : Ev (fun k => lex_key.f k w) (isKey w) := by
  unfold lex_key.f slices_Contains_string_string.f slices_Index_string_string.f
  refine Ev.bind (f := fun _ t => some t) (a := isKey w) ?_ (Ev.now _)
  exact Ev.bind (f := fun _ (t : Int) => some (decide (t ≥ 0))) (index_ev KW w (by decide) 15 0 rfl) (Ev.now _)
theorem key_short (w : ByteArray) (h : isKey w = true) : w.size ≤ 20 := by
  unfold isKey at h
  obtain ⟨x, hx, e⟩ := find_some w KW 0 (of_decide_eq_true h)
  have h1 : w.size = x.size := by
    rw [← data_length w, ← data_length x, ← toL, ← toL, e]
  rw [h1]
  simp only [KW, List.mem_cons, List.not_mem_nil, or_false] at hx
  rcases hx with rfl | rfl | rfl | rfl | rfl | rfl | rfl | rfl | rfl | rfl | rfl | rfl | rfl | rfl | rfl <;> decide
/-! ### The signs -/
theorem prefix_f (x p : ByteArray) : strings_HasPrefix.f x p = some (decide (p.size ≤ x.size ∧ (x.extract 0 p.size).toList = p.toList)) := by
  unfold strings_HasPrefix.f stringslite_HasPrefix.f
  by_cases h : p.size ≤ x.size
  · rw [if_pos (by omega), if_pos (by omega), if_pos (by omega)]
    by_cases h2 : (x.extract 0 p.size).toList = p.toList <;> simp [h, h2]
  · rw [if_neg (by omega)]
    simp [h]
theorem byte_in : ∀ n : Nat, n < 256 → (decide (Lib.indexByte [40, 41, 123, 125, 44, 59, 58, 46, 61, 60, 43, 45, 42, 47, 37, 33] n.toUInt8 ≥ 0)) = decide (n = 40 ∨ n = 41 ∨ n = 123 ∨ n = 125 ∨ n = 44 ∨ n = 59 ∨ n = 58 ∨ n = 46 ∨ n = 61 ∨ n = 60 ∨ n = 43 ∨ n = 45 ∨ n = 42 ∨ n = 47 ∨ n = 37 ∨ n = 33) := by decide +kernel
def one (c : Int) : Prop := c = 40 ∨ c = 41 ∨ c = 123 ∨ c = 125 ∨ c = 44 ∨ c = 59 ∨ c = 58 ∨ c = 46 ∨ c = 61 ∨ c = 60 ∨ c = 43 ∨ c = 45 ∨ c = 42 ∨ c = 47 ∨ c = 37 ∨ c = 33
instance (c : Int) : Decidable (one c) := by unfold one; infer_instance
theorem one_f (c : Int) (h0 : 0 ≤ c) (h1 : c ≤ 255) : (Lib.indexByte [40, 41, 123, 125, 44, 59, 58, 46, 61, 60, 43, 45, 42, 47, 37, 33] c.toNat.toUInt8 ≥ 0) ↔ one c := by
  have h := decide_eq_decide.1 (byte_in c.toNat (by omega))
  rw [h]
  unfold one
  omega
def at1 (s : ByteArray) (i : Nat) : ByteArray := if one (bt s (i : Int)) then s.extract i (i + 1) else ⟨#[]⟩
def at2 (s : ByteArray) (i : Nat) : ByteArray :=
  if i + 1 < s.size ∧ ((s.extract i (i + 2)).toList = [61, 61] ∨ (s.extract i (i + 2)).toList = [60, 61] ∨ (s.extract i (i + 2)).toList = [45, 62]) then s.extract i (i + 2) else at1 s i
theorem ext_of {a b : ByteArray} (h : a.toList = b.toList) : a = b := by
  rw [toL, toL] at h
  cases a; cases b
  simpa using h
theorem rest_cut (s : ByteArray) (i n : Nat) (h : i + n ≤ s.size) : (s.extract i s.size).extract 0 n = s.extract i (i + n) := by
  rw [ByteArray.extract_extract]
  congr 1 <;> omega
theorem lex_sign_end (s : ByteArray) (i : Nat) (hi : i < s.size) (k : Nat) (y : List ByteArray) (n : Int) : lex_sign.l0 (k + 1) (s.extract i s.size) y n n = some (at1 s i) := by
  have hz : (s.extract i s.size).size = s.size - i := size_cut s i s.size (Nat.le_refl _)
  simp only [lex_sign.l0]
  rw [if_neg (by omega), if_neg (by rw [nil_iff]; omega), if_pos (by omega)]
  have hb : bt (s.extract i s.size) 0 = bt s (i : Int) := by
    have := bt_cut s i s.size 0 (by omega) (Nat.le_refl _)
    simpa using this
  rw [hb]
  unfold strings_IndexByte.f
  simp only [Option.bind_some]
  have h1 := one_f (bt s (i : Int)) (bt_range s _).1 (bt_range s _).2
  unfold at1
  by_cases h : one (bt s (i : Int))
  · rw [if_pos (h1.2 h), if_pos (by omega), if_pos (by omega), if_pos h, rest_cut s i 1 (by omega)]
  · rw [if_neg (fun e => h (h1.1 e)), if_neg h]
theorem sign_round (x : ByteArray) (y : List ByteArray) (j : Nat) (p : ByteArray) (hj : y[j]? = some p) (hl : y.length ≤ 1000) (r : ByteArray)
    (h1 : p.size ≤ x.size ∧ (x.extract 0 p.size).toList = p.toList → r = p) (h2 : ¬ (p.size ≤ x.size ∧ (x.extract 0 p.size).toList = p.toList) → Ev (fun k => lex_sign.l0 k x y (y.length : Int) ((j + 1 : Nat) : Int)) r) :
    Ev (fun k => lex_sign.l0 k x y (y.length : Int) (j : Int)) r := by
  obtain ⟨hlt, hp⟩ := List.getElem?_eq_some_iff.1 hj
  have hr : rdOf ByteArray.empty y (j : Int) = p := by simp [rdOf, List.getD_eq_getElem?_getD, hj]
  by_cases h : p.size ≤ x.size ∧ (x.extract 0 p.size).toList = p.toList
  · refine Ev.step (f := fun _ => some r) (fun k => ?_) (Ev.now _)
    simp only [lex_sign.l0]
    rw [if_pos (by omega), if_pos (by omega), if_pos (by omega), hr, prefix_f, decide_eq_true h, h1 h]
    rfl
  · refine Ev.step (fun k => ?_) (h2 h)
    simp only [lex_sign.l0]
    rw [if_pos (by omega), if_pos (by omega), if_pos (by omega), hr, prefix_f, decide_eq_false h, w64 (by omega) (by omega)]
    rfl
theorem lex_sign_ev (s : ByteArray) (i : Nat) (hi : i < s.size) : Ev (fun k => lex_sign.f k (s.extract i s.size)) (at2 s i) := by
  have hz : (s.extract i s.size).size = s.size - i := size_cut s i s.size (Nat.le_refl _)
  have key : ∀ p : ByteArray, p.size = 2 → (p.size ≤ (s.extract i s.size).size ∧ ((s.extract i s.size).extract 0 p.size).toList = p.toList ↔ i + 1 < s.size ∧ (s.extract i (i + 2)).toList = p.toList) := by
    intro p hp
    rw [hp, hz]
    constructor
    · rintro ⟨h1, h2⟩
      rw [rest_cut s i 2 (by omega)] at h2
      exact ⟨by omega, h2⟩
    · rintro ⟨h1, h2⟩
      rw [rest_cut s i 2 (by omega)]
      exact ⟨by omega, h2⟩
  have L : ∀ l : List UInt8, (⟨l.toArray⟩ : ByteArray).toList = l := fun l => by rw [toL]
  unfold lex_sign.f
  simp only [Option.bind_some]
  unfold at2
  have k0 := key (⟨#[61, 61]⟩ : ByteArray) rfl
  have k1 := key (⟨#[60, 61]⟩ : ByteArray) rfl
  have k2 := key (⟨#[45, 62]⟩ : ByteArray) rfl
  refine sign_round _ _ 0 (⟨#[61, 61]⟩ : ByteArray) rfl (by decide) _ (fun h => ?_) (fun h0 => ?_)
  · have h := k0.1 h
    rw [if_pos ⟨h.1, .inl (h.2.trans (L [61, 61]))⟩]
    exact ext_of h.2
  refine sign_round _ _ 1 (⟨#[60, 61]⟩ : ByteArray) rfl (by decide) _ (fun h => ?_) (fun h1 => ?_)
  · have h := k1.1 h
    rw [if_pos ⟨h.1, .inr (.inl (h.2.trans (L [60, 61])))⟩]
    exact ext_of h.2
  refine sign_round _ _ 2 (⟨#[45, 62]⟩ : ByteArray) rfl (by decide) _ (fun h => ?_) (fun h2 => ?_)
  · have h := k2.1 h
    rw [if_pos ⟨h.1, .inr (.inr (h.2.trans (L [45, 62])))⟩]
    exact ext_of h.2
  rw [if_neg (by
    rintro ⟨ha, h | h | h⟩
    · exact h0 (k0.2 ⟨ha, h.trans (L [61, 61]).symm⟩)
    · exact h1 (k1.2 ⟨ha, h.trans (L [60, 61]).symm⟩)
    · exact h2 (k2.2 ⟨ha, h.trans (L [45, 62]).symm⟩))]
  exact Ev.step (f := fun _ => some (at1 s i)) (fun k => lex_sign_end s i hi k _ 3) (Ev.now _)
theorem at1_size (s : ByteArray) (i : Nat) (hi : i < s.size) : i + (at1 s i).size ≤ s.size ∧ ((at1 s i).toList = [] ∨ 1 ≤ (at1 s i).size) := by
  unfold at1
  split
  · rw [size_cut s i (i + 1) (by omega)]
    exact ⟨by omega, .inr (by omega)⟩
  · exact ⟨by show i + 0 ≤ s.size; omega, .inl (by rw [nil_iff]; rfl)⟩
theorem at2_size (s : ByteArray) (i : Nat) (hi : i < s.size) : i + (at2 s i).size ≤ s.size ∧ ((at2 s i).toList = [] ∨ 1 ≤ (at2 s i).size) := by
  unfold at2
  split
  · rename_i h
    rw [size_cut s i (i + 2) (by omega)]
    exact ⟨by omega, .inr (by omega)⟩
  · exact at1_size s i hi
theorem at2_cut (s : ByteArray) (i : Nat) (hi : i < s.size) (h : (at2 s i).toList ≠ []) : at2 s i = s.extract i (i + (at2 s i).size) := by
  unfold at2 at h ⊢
  split
  · rename_i h1
    rw [size_cut s i (i + 2) (by omega)]
    congr 1
    omega
  · rename_i h1
    rw [if_neg h1] at h
    unfold at1 at h ⊢
    split
    · rw [size_cut s i (i + 1) (by omega)]
      congr 1
      omega
    · rename_i h2
      rw [if_neg h2] at h
      exact absurd ((nil_iff _).2 rfl) h
theorem word_some (w : ByteArray) : ∃ p : Int × Int, Ev (fun k => lex_word.f k w) p := by
  unfold lex_word.f
  refine ⟨if isKey w = true then (3, 0) else if (w.size : Int) > 20 then (0, 9) else (1, 0), Ev.bind (f := fun _ (t : Bool) => if t = true then some ((3 : Int), (0 : Int)) else if (w.size : Int) > 20 then some (0, 9) else some (1, 0)) (key_ev w) (Ev.congr (fun k => ?_) (Ev.now _))⟩
  split
  · rfl
  · split <;> rfl
theorem number_some (a b : ByteArray) (h : 0 < a.size) : ∃ p, lex_number.f 1 a b = some p := by
  have hj : ∀ x, ∃ p, lex_number.j0 1 b x = some p := by
    intro x
    simp only [lex_number.j0]
    by_cases h1 : x = true
    · rw [if_pos h1]; exact ⟨_, rfl⟩
    rw [if_neg h1]
    by_cases h2 : b.toList = []
    · rw [if_pos h2]; exact ⟨_, rfl⟩
    rw [if_neg h2, if_pos (by rw [nil_iff] at h2; omega), lex_All.within_f, Option.bind_some]
    cases lex_All.within (bt b 0) <;> exact ⟨_, rfl⟩
  unfold lex_number.f
  by_cases h9 : (a.size : Int) > 9
  · rw [if_pos h9]; exact ⟨_, rfl⟩
  rw [if_neg h9, if_pos (by omega)]
  by_cases h48 : bt a 0 = 48
  · rw [if_pos h48]; exact hj _
  · rw [if_neg h48]; exact hj _
theorem skip_all (q : Int → Bool) (s : ByteArray) : ∀ d i, ∀ j, i ≤ j → j < lex_All.skip q s d i → q (bt s (j : Int)) = true := by
  intro d
  induction d with
  | zero =>
    intro i j h1 h2
    simp only [lex_All.skip] at h2
    omega
  | succ d ih =>
    intro i j h1 h2
    unfold lex_All.skip at h2
    by_cases hi : i < s.size
    · rw [if_pos hi] at h2
      cases hq : q (bt s (i : Int)) with
      | true =>
        rw [hq, if_pos rfl] at h2
        by_cases he : j = i
        · rw [he]; exact hq
        · exact ih (i + 1) j (by omega) h2
      | false =>
        rw [hq, if_neg Bool.false_ne_true] at h2
        omega
    · rw [if_neg hi] at h2
      omega
abbrev Res : Type := (List S49) × Int × Int
abbrev Blank (c : Int) : Prop := c = 32 ∨ c = 9 ∨ c = 10 ∨ c = 13
/-- One step of the reader: a blank, a remark, an error, a token. -/
theorem lex_step (s : ByteArray) (i : Nat) (out : List S49) (hlt : i < s.size) (hl4 : out.length < 4398046511104) :
    (Blank (bt s (i : Int)) ∧ ∀ r : Res, Ev (fun k => lex_All.l0 k s out (i + 1)) r → Ev (fun k => lex_All.l0 k s out i) r) ∨
    (¬ Blank (bt s (i : Int)) ∧ bt s (i : Int) = 35 ∧ ∀ r : Res, Ev (fun k => lex_All.l0 k s out (lex_All.upto lex_All.nl s i)) r → Ev (fun k => lex_All.l0 k s out i) r) ∨
    (∃ er : Int, er ≠ 0 ∧ Ev (fun k => lex_All.l0 k s out i) (([] : List S49), er, (i : Int))) ∨
    (¬ Blank (bt s (i : Int)) ∧ bt s (i : Int) ≠ 35 ∧ ∃ (e : Nat) (kd : Int), i < e ∧ e ≤ s.size ∧ ∀ r : Res, Ev (fun k => lex_All.l0 k s (out ++ [⟨kd, s.extract i e, (i : Int)⟩]) e) r → Ev (fun k => lex_All.l0 k s out i) r) := by
  have hi : i ≤ s.size := Nat.le_of_lt hlt
  by_cases hb : Blank (bt s (i : Int))
  · refine .inl ⟨hb, fun r h => Ev.step (fun k => ?_) h⟩
    simp only [lex_All.l0]
    rw [if_pos hlt, if_pos hb]
  by_cases h35 : bt s (i : Int) = 35
  · refine .inr (.inl ⟨hb, h35, fun r h => Ev.step (fun k => ?_) h⟩)
    simp only [lex_All.l0]
    rw [if_pos hlt, if_neg hb, if_pos h35]
  refine .inr (.inr ?_)
  cases hsm : lex_All.small (bt s (i : Int)) with
  | true =>
    have hon := upto_on lex_All.within s i hlt (by rw [within_eq, hsm]; rfl)
    have hle := upto_le lex_All.within s i hi
    have hlex : ∀ k, lex_All.l0 (k + 1) s out i = ((lex_word.f k (s.extract i (lex_All.upto lex_All.within s i))).bind fun b => (if b.2 = 0 then (lex_All.l0 k s (out ++ [(⟨b.1, s.extract i (lex_All.upto lex_All.within s i), (i : Int)⟩ : S49)]) (lex_All.upto lex_All.within s i)) else (some (([] : List S49), b.2, (i : Int))))) := by
      intro k
      simp only [lex_All.l0]
      rw [if_pos hlt, if_neg hb, if_neg h35, if_pos hsm]
      simp only [if_pos hl4]
    obtain ⟨p, h1⟩ := word_some (s.extract i (lex_All.upto lex_All.within s i))
    by_cases he : p.2 = 0
    · refine .inr ⟨hb, h35, _, p.1, hon, hle.2, fun r h => Ev.step hlex (Ev.bind h1 ?_)⟩
      simp only [if_pos he]
      exact h
    · refine .inl ⟨p.2, he, Ev.step hlex (Ev.bind h1 ?_)⟩
      simp only [if_neg he]
      exact Ev.now _
  | false =>
  have hns : ¬ lex_All.small (bt s (i : Int)) = true := by rw [hsm]; decide
  cases hdg : lex_All.digit (bt s (i : Int)) with
  | true =>
    have hon := upto_on lex_All.digit s i hlt hdg
    have hle := upto_le lex_All.digit s i hi
    have hlex : ∀ k, lex_All.l0 (k + 1) s out i = ((lex_number.f k (s.extract i (lex_All.upto lex_All.digit s i)) (s.extract (lex_All.upto lex_All.digit s i) s.size)).bind fun b => (if b.2 = 0 then (lex_All.l0 k s (out ++ [(⟨b.1, s.extract i (lex_All.upto lex_All.digit s i), (i : Int)⟩ : S49)]) (lex_All.upto lex_All.digit s i)) else (some (([] : List S49), b.2, (i : Int))))) := by
      intro k
      simp only [lex_All.l0]
      rw [if_pos hlt, if_neg hb, if_neg h35, if_neg hns, if_pos hdg]
      simp only [if_pos hl4]
    obtain ⟨p, h1⟩ := number_some (s.extract i (lex_All.upto lex_All.digit s i)) (s.extract (lex_All.upto lex_All.digit s i) s.size) (by rw [size_cut s i _ hle.2]; omega)
    have h1 := Ev.of (fun k => lex_number.mono _ _ k) h1
    by_cases he : p.2 = 0
    · refine .inr ⟨hb, h35, _, p.1, hon, hle.2, fun r h => Ev.step hlex (Ev.bind h1 ?_)⟩
      simp only [if_pos he]
      exact h
    · refine .inl ⟨p.2, he, Ev.step hlex (Ev.bind h1 ?_)⟩
      simp only [if_neg he]
      exact Ev.now _
  | false =>
    have hnd : ¬ lex_All.digit (bt s (i : Int)) = true := by rw [hdg]; decide
    have hsz := at2_size s i hlt
    have hlex : ∀ k, lex_All.l0 (k + 1) s out i = (lex_sign.f k (s.extract i s.size)).bind fun t => (if i + t.size ≤ s.size then (if t.toList = [] then (some (([] : List S49), 10, (i : Int))) else (lex_All.l0 k s (out ++ [(⟨4, t, (i : Int)⟩ : S49)]) (i + t.size))) else none) := by
      intro k
      simp only [lex_All.l0]
      rw [if_pos hlt, if_neg hb, if_neg h35, if_neg hns, if_neg hnd]
      simp only [if_pos hl4]
    by_cases ht : (at2 s i).toList = []
    · refine .inl ⟨10, by decide, Ev.step hlex (Ev.bind (lex_sign_ev s i hlt) ?_)⟩
      simp only [if_pos ht, if_pos hsz.1]
      exact Ev.now _
    · have h1 := hsz.2.resolve_left ht
      refine .inr ⟨hb, h35, i + (at2 s i).size, 4, by omega, hsz.1, fun r h => Ev.step hlex (Ev.bind (lex_sign_ev s i hlt) ?_)⟩
      rw [← at2_cut s i hlt ht] at h
      simp only [if_neg ht, if_pos hsz.1]
      exact h
end LexP
namespace LexP
inductive Act where
  | go (j : Nat)
  | err (er : Int)
  | tok (kd : Int) (e : Nat)
/-- What the reader does at i. -/
def act (s : ByteArray) (i : Nat) : Act :=
  if Blank (bt s (i : Int)) then .go (i + 1)
  else if bt s (i : Int) = 35 then .go (lex_All.upto lex_All.nl s i)
  else if lex_All.small (bt s (i : Int)) = true then
    (if isKey (s.extract i (lex_All.upto lex_All.within s i)) = true then .tok 3 (lex_All.upto lex_All.within s i)
     else if ((s.extract i (lex_All.upto lex_All.within s i)).size : Int) > 20 then .err 9 else .tok 1 (lex_All.upto lex_All.within s i))
  else if lex_All.digit (bt s (i : Int)) = true then
    (match lex_number.f 1 (s.extract i (lex_All.upto lex_All.digit s i)) (s.extract (lex_All.upto lex_All.digit s i) s.size) with
     | some p => if p.2 = 0 then .tok p.1 (lex_All.upto lex_All.digit s i) else .err p.2
     | none => .err 1)
  else if (at2 s i).toList = [] then .err 10 else .tok 4 (i + (at2 s i).size)
def Rule (s : ByteArray) (i : Nat) (out : List S49) : Act → Prop
  | .go j => i < j ∧ j ≤ s.size ∧ ∀ r : Res, Ev (fun k => lex_All.l0 k s out j) r → Ev (fun k => lex_All.l0 k s out i) r
  | .err er => er ≠ 0 ∧ Ev (fun k => lex_All.l0 k s out i) (([] : List S49), er, (i : Int))
  | .tok kd e => i < e ∧ e ≤ s.size ∧ ∀ r : Res, Ev (fun k => lex_All.l0 k s (out ++ [⟨kd, s.extract i e, (i : Int)⟩]) e) r → Ev (fun k => lex_All.l0 k s out i) r
theorem word_ev (w : ByteArray) (p : Int × Int) (h : (if isKey w = true then some ((3 : Int), (0 : Int)) else if (w.size : Int) > 20 then some (0, 9) else some (1, 0)) = some p) : Ev (fun k => lex_word.f k w) p := by
  unfold lex_word.f
  refine Ev.bind (f := fun _ (t : Bool) => if t = true then some ((3 : Int), (0 : Int)) else if (w.size : Int) > 20 then some (0, 9) else some (1, 0)) (key_ev w) (Ev.congr (fun k => ?_) (Ev.now _))
  exact h
theorem act_rule (s : ByteArray) (i : Nat) (out : List S49) (hlt : i < s.size) (hl4 : out.length < 4398046511104) : Rule s i out (act s i) := by
  have hi : i ≤ s.size := Nat.le_of_lt hlt
  unfold act
  by_cases hb : Blank (bt s (i : Int))
  · rw [if_pos hb]
    refine ⟨Nat.lt_succ_self _, hlt, fun r h => Ev.step (fun k => ?_) h⟩
    simp only [lex_All.l0]
    rw [if_pos hlt, if_pos hb]
  rw [if_neg hb]
  by_cases h35 : bt s (i : Int) = 35
  · rw [if_pos h35]
    refine ⟨upto_on lex_All.nl s i hlt (by rw [h35]; rfl), (upto_le lex_All.nl s i hi).2, fun r h => Ev.step (fun k => ?_) h⟩
    simp only [lex_All.l0]
    rw [if_pos hlt, if_neg hb, if_pos h35]
  rw [if_neg h35]
  cases hsm : lex_All.small (bt s (i : Int)) with
  | true =>
    have hon := upto_on lex_All.within s i hlt (by rw [within_eq, hsm]; rfl)
    have hle := upto_le lex_All.within s i hi
    have hlex : ∀ k, lex_All.l0 (k + 1) s out i = ((lex_word.f k (s.extract i (lex_All.upto lex_All.within s i))).bind fun b => (if b.2 = 0 then (lex_All.l0 k s (out ++ [(⟨b.1, s.extract i (lex_All.upto lex_All.within s i), (i : Int)⟩ : S49)]) (lex_All.upto lex_All.within s i)) else (some (([] : List S49), b.2, (i : Int))))) := by
      intro k
      simp only [lex_All.l0]
      rw [if_pos hlt, if_neg hb, if_neg h35, if_pos hsm]
      simp only [if_pos hl4]
    generalize lex_All.upto lex_All.within s i = e at hon hle hlex
    rw [if_pos rfl]
    by_cases hk : isKey (s.extract i e) = true
    · rw [if_pos hk]
      refine ⟨hon, hle.2, fun r h => Ev.step hlex (Ev.bind (a := (3, 0)) (word_ev _ _ (by rw [if_pos hk])) ?_)⟩
      simp only
      exact h
    · rw [if_neg hk]
      by_cases h20 : ((s.extract i e).size : Int) > 20
      · rw [if_pos h20]
        refine ⟨by decide, Ev.step hlex (Ev.bind (a := (0, 9)) (word_ev _ _ (by rw [if_neg hk, if_pos h20])) ?_)⟩
        exact Ev.now _
      · rw [if_neg h20]
        refine ⟨hon, hle.2, fun r h => Ev.step hlex (Ev.bind (a := (1, 0)) (word_ev _ _ (by rw [if_neg hk, if_neg h20])) ?_)⟩
        simp only
        exact h
  | false =>
  have hns : ¬ lex_All.small (bt s (i : Int)) = true := by rw [hsm]; decide
  rw [if_neg Bool.false_ne_true]
  cases hdg : lex_All.digit (bt s (i : Int)) with
  | true =>
    have hon := upto_on lex_All.digit s i hlt hdg
    have hle := upto_le lex_All.digit s i hi
    have hlex : ∀ k, lex_All.l0 (k + 1) s out i = ((lex_number.f k (s.extract i (lex_All.upto lex_All.digit s i)) (s.extract (lex_All.upto lex_All.digit s i) s.size)).bind fun b => (if b.2 = 0 then (lex_All.l0 k s (out ++ [(⟨b.1, s.extract i (lex_All.upto lex_All.digit s i), (i : Int)⟩ : S49)]) (lex_All.upto lex_All.digit s i)) else (some (([] : List S49), b.2, (i : Int))))) := by
      intro k
      simp only [lex_All.l0]
      rw [if_pos hlt, if_neg hb, if_neg h35, if_neg hns, if_pos hdg]
      simp only [if_pos hl4]
    rw [if_pos rfl]
    generalize lex_All.upto lex_All.digit s i = e at hon hle hlex
    obtain ⟨p, h1⟩ := number_some (s.extract i e) (s.extract e s.size) (by rw [size_cut s i _ hle.2]; omega)
    rw [h1]
    have h1 := Ev.of (fun k => lex_number.mono _ _ k) h1
    dsimp only
    by_cases he : p.2 = 0
    · rw [if_pos he]
      refine ⟨hon, hle.2, fun r h => Ev.step hlex (Ev.bind h1 ?_)⟩
      simp only [if_pos he]
      exact h
    · rw [if_neg he]
      refine ⟨he, Ev.step hlex (Ev.bind h1 ?_)⟩
      simp only [if_neg he]
      exact Ev.now _
  | false =>
    have hnd : ¬ lex_All.digit (bt s (i : Int)) = true := by rw [hdg]; decide
    have hsz := at2_size s i hlt
    have hlex : ∀ k, lex_All.l0 (k + 1) s out i = (lex_sign.f k (s.extract i s.size)).bind fun t => (if i + t.size ≤ s.size then (if t.toList = [] then (some (([] : List S49), 10, (i : Int))) else (lex_All.l0 k s (out ++ [(⟨4, t, (i : Int)⟩ : S49)]) (i + t.size))) else none) := by
      intro k
      simp only [lex_All.l0]
      rw [if_pos hlt, if_neg hb, if_neg h35, if_neg hns, if_neg hnd]
      simp only [if_pos hl4]
    rw [if_neg Bool.false_ne_true]
    by_cases ht : (at2 s i).toList = []
    · rw [if_pos ht]
      refine ⟨by decide, Ev.step hlex (Ev.bind (lex_sign_ev s i hlt) ?_)⟩
      simp only [if_pos ht, if_pos hsz.1]
      exact Ev.now _
    · rw [if_neg ht]
      have h1 := hsz.2.resolve_left ht
      refine ⟨by omega, hsz.1, fun r h => Ev.step hlex (Ev.bind (lex_sign_ev s i hlt) ?_)⟩
      rw [← at2_cut s i hlt ht] at h
      simp only [if_neg ht, if_pos hsz.1]
      exact h
/-- The tokens from i on, if there is no error. -/
def run (s : ByteArray) : Nat → Nat → Option (List S49)
  | 0, _ => none
  | d + 1, i => if i < s.size then (match act s i with
      | .go j => run s d j
      | .err _ => none
      | .tok kd e => (run s d e).map fun l => (⟨kd, s.extract i e, (i : Int)⟩ : S49) :: l)
    else some [⟨0, ⟨#[]⟩, (s.size : Int)⟩]
def Told (s : ByteArray) (i : Nat) (out : List S49) : Option (List S49) → Prop
  | some l => Ev (fun k => lex_All.l0 k s out i) ((out ++ l, 0, 0) : Res)
  | none => ∃ er a : Int, er ≠ 0 ∧ Ev (fun k => lex_All.l0 k s out i) (([] : List S49), er, a)
theorem run_told (s : ByteArray) (hs : s.size ≤ 8192) : ∀ (d i : Nat) (out : List S49), s.size - i < d → i ≤ s.size → out.length ≤ i → Told s i out (run s d i) := by
  intro d
  induction d with
  | zero => intro i out h; omega
  | succ d ih =>
    intro i out hd hi hl
    simp only [run]
    by_cases hlt : i < s.size
    · rw [if_pos hlt]
      have hr := act_rule s i out hlt (by omega)
      cases ha : act s i with
      | go j =>
        rw [ha] at hr
        obtain ⟨h1, h2, h3⟩ := hr
        have h4 := ih j out (by omega) h2 (by omega)
        dsimp only
        cases hrun : run s d j with
        | some l => rw [hrun] at h4; exact h3 _ h4
        | none =>
          rw [hrun] at h4
          obtain ⟨er, a, h5, h6⟩ := h4
          exact ⟨er, a, h5, h3 _ h6⟩
      | err er =>
        rw [ha] at hr
        exact ⟨er, _, hr.1, hr.2⟩
      | tok kd e =>
        rw [ha] at hr
        obtain ⟨h1, h2, h3⟩ := hr
        have h4 := ih e (out ++ [⟨kd, s.extract i e, (i : Int)⟩]) (by omega) h2 (by rw [List.length_append, List.length_singleton]; omega)
        dsimp only
        cases hrun : run s d e with
        | some l =>
          rw [hrun] at h4
          have h5 := h3 _ h4
          rw [List.append_assoc] at h5
          exact h5
        | none =>
          rw [hrun] at h4
          obtain ⟨er, a, h5, h6⟩ := h4
          exact ⟨er, a, h5, h3 _ h6⟩
    · rw [if_neg hlt]
      refine Ev.step (fun k => ?_) (Ev.now _)
      simp only [lex_All.l0]
      rw [if_neg hlt, if_pos (by omega)]
end LexP
namespace LexP
/-- Two texts, a line's end between. -/
def two (a b : ByteArray) : ByteArray := (a ++ (⟨#[10]⟩ : ByteArray)) ++ b
theorem two_size (a b : ByteArray) : (two a b).size = a.size + 1 + b.size := by
  unfold two
  rw [ByteArray.size_append, ByteArray.size_append]
  rfl
theorem two_data (a b : ByteArray) : (two a b).data.toList = a.data.toList ++ (10 :: b.data.toList) := by
  unfold two
  rw [ByteArray.data_append, ByteArray.data_append, Array.toList_append, Array.toList_append]
  simp
theorem bt_list (s : ByteArray) (i : Nat) : bt s (i : Int) = ((s.data.toList.getD i 0).toNat : Int) := by
  unfold bt
  simp only [Int.toNat_natCast]
  by_cases h : i < s.size
  · rw [dif_pos h]
    have h2 : i < s.data.toList.length := by rw [data_length]; exact h
    rw [List.getD_eq_getElem?_getD, List.getElem?_eq_getElem h2]
    rfl
  · rw [dif_neg h]
    have h2 : s.data.toList.length ≤ i := by rw [data_length]; omega
    rw [List.getD_eq_getElem?_getD, List.getElem?_eq_none h2]
    rfl
theorem bt_left (a b : ByteArray) (j : Nat) (h : j < a.size) : bt (two a b) (j : Int) = bt a (j : Int) := by
  rw [bt_list, bt_list, two_data]
  have h2 : j < a.data.toList.length := by rw [data_length]; exact h
  simp [List.getD_eq_getElem?_getD, List.getElem?_append_left h2]
theorem bt_mid (a b : ByteArray) : bt (two a b) (a.size : Int) = 10 := by
  rw [bt_list, two_data, ← data_length a]
  simp [List.getD_eq_getElem?_getD]
theorem bt_right (a b : ByteArray) (j : Nat) : bt (two a b) ((a.size + 1 + j : Nat) : Int) = bt b (j : Int) := by
  rw [bt_list, bt_list, two_data, ← data_length a, List.getD_eq_getElem?_getD, List.getD_eq_getElem?_getD, List.getElem?_append_right (by omega)]
  rw [show a.data.toList.length + 1 + j - a.data.toList.length = j + 1 by omega, List.getElem?_cons_succ]
theorem cut_list (s : ByteArray) (i e : Nat) : (s.extract i e).data.toList = (s.data.toList.take e).drop i := by
  rw [ByteArray.data_extract, Array.toList_extract, List.extract_eq_take_drop, List.drop_take]
theorem list_ext {x y : ByteArray} (h : x.data.toList = y.data.toList) : x = y := ByteArray.ext (Array.ext' h)
theorem cut_left (a b : ByteArray) (i e : Nat) (he : e ≤ a.size) : (two a b).extract i e = a.extract i e := by
  apply list_ext
  rw [cut_list, cut_list, two_data, List.take_append_of_le_length (by rw [data_length]; exact he)]
theorem cut_right (a b : ByteArray) (i e : Nat) : (two a b).extract (a.size + 1 + i) (a.size + 1 + e) = b.extract i e := by
  apply list_ext
  have h : (two a b).data.toList = (a.data.toList ++ [10]) ++ b.data.toList := by rw [two_data]; simp
  have hl : (a.data.toList ++ [10]).length = a.size + 1 := by rw [List.length_append, data_length]; rfl
  rw [cut_list, cut_list, h, ← hl, List.take_length_add_append, List.drop_length_add_append]
theorem skip_left (q : Int → Bool) (a b : ByteArray) (hq : q 10 = false) : ∀ (d i m : Nat), i + d = a.size → d ≤ m → lex_All.skip q (two a b) m i = lex_All.skip q a d i := by
  intro d
  induction d with
  | zero =>
    intro i m hd hm
    have hi : i = a.size := by omega
    subst hi
    cases m with
    | zero => rfl
    | succ m =>
      have h2 := two_size a b
      simp only [lex_All.skip]
      rw [if_pos (by omega), bt_mid, hq, if_neg Bool.false_ne_true]
  | succ d ih =>
    intro i m hd hm
    cases m with
    | zero => omega
    | succ m =>
      have h2 := two_size a b
      simp only [lex_All.skip]
      rw [if_pos (show i < (two a b).size by omega), if_pos (show i < a.size by omega), bt_left a b i (by omega), ih (i + 1) m (by omega) (by omega)]
theorem upto_left (q : Int → Bool) (a b : ByteArray) (hq : q 10 = false) (i : Nat) (hi : i ≤ a.size) : lex_All.upto q (two a b) i = lex_All.upto q a i :=
  skip_left q a b hq _ i _ (by omega) (by have := two_size a b; omega)
theorem skip_right (q : Int → Bool) (a b : ByteArray) : ∀ (d i : Nat), lex_All.skip q (two a b) d (a.size + 1 + i) = a.size + 1 + lex_All.skip q b d i := by
  intro d
  induction d with
  | zero => intro i; rfl
  | succ d ih =>
    intro i
    have h2 := two_size a b
    simp only [lex_All.skip]
    rw [bt_right]
    by_cases h : i < b.size
    · rw [if_pos h, if_pos (by omega)]
      split
      · exact ih (i + 1)
      · rfl
    · rw [if_neg h, if_neg (by omega)]
theorem upto_right (q : Int → Bool) (a b : ByteArray) (i : Nat) : lex_All.upto q (two a b) (a.size + 1 + i) = a.size + 1 + lex_All.upto q b i := by
  have h2 := two_size a b
  unfold lex_All.upto
  rw [show (two a b).size - (a.size + 1 + i) = b.size - i by omega]
  exact skip_right q a b _ i
theorem number_rest (x y z : ByteArray) (h : ∀ v, lex_number.j0 1 y v = lex_number.j0 1 z v) : lex_number.f 1 x y = lex_number.f 1 x z := by
  unfold lex_number.f
  rw [h, h]
theorem rest_left (a b : ByteArray) (e : Nat) (he : e ≤ a.size) (v : Bool) : lex_number.j0 1 ((two a b).extract e (two a b).size) v = lex_number.j0 1 (a.extract e a.size) v := by
  have h2 := two_size a b
  have s1 := size_cut (two a b) e (two a b).size (Nat.le_refl _)
  have s2 := size_cut a e a.size (Nat.le_refl _)
  have b1 : bt ((two a b).extract e (two a b).size) 0 = bt (two a b) (e : Int) := by simpa using bt_cut (two a b) e (two a b).size 0 (by omega) (Nat.le_refl _)
  simp only [lex_number.j0]
  cases v with
  | true => rfl
  | false =>
    rw [if_neg Bool.false_ne_true, if_neg Bool.false_ne_true, if_neg (by rw [nil_iff]; omega), if_pos (by omega), b1]
    by_cases hlt : e < a.size
    · have b2 : bt (a.extract e a.size) 0 = bt a (e : Int) := by simpa using bt_cut a e a.size 0 (by omega) (Nat.le_refl _)
      rw [if_neg (by rw [nil_iff]; omega), if_pos (by omega), b2, bt_left a b e hlt]
    · have hea : e = a.size := by omega
      subst hea
      rw [if_pos (by rw [nil_iff]; omega), bt_mid]
      rfl
theorem at1_left (a b : ByteArray) (i : Nat) (hi : i < a.size) : at1 (two a b) i = at1 a i := by
  unfold at1
  rw [bt_left a b i hi, cut_left a b i (i + 1) hi]
theorem at2_left (a b : ByteArray) (i : Nat) (hi : i < a.size) : at2 (two a b) i = at2 a i := by
  have h2 := two_size a b
  unfold at2
  rw [at1_left a b i hi]
  by_cases h : i + 1 < a.size
  · rw [cut_left a b i (i + 2) (by omega)]
    have e : i + 1 < (two a b).size := by omega
    simp only [h, e, true_and]
  · have hia : i + 1 = a.size := by omega
    rw [if_neg (show ¬ (i + 1 < a.size ∧ _) from fun x => h x.1)]
    have hb : bt ((two a b).extract i (i + 2)) ((1 : Nat) : Int) = 10 := by
      rw [bt_cut (two a b) i (i + 2) 1 (by omega) (by omega), hia, bt_mid]
    have hno : ∀ x : UInt8, x ≠ 10 → ∀ y, ¬ ((two a b).extract i (i + 2)).toList = [y, x] := by
      intro x hx y hh
      rw [bt_list, ← toL, hh] at hb
      have : x.toNat = 10 := by
        have h3 : ((x.toNat : Nat) : Int) = 10 := by simpa using hb
        omega
      exact hx (UInt8.toNat_inj.1 this)
    rw [if_neg]
    rintro ⟨_, h | h | h⟩
    · exact hno _ (by decide) _ h
    · exact hno _ (by decide) _ h
    · exact hno _ (by decide) _ h
theorem act_left (a b : ByteArray) (i : Nat) (hi : i < a.size) : act (two a b) i = act a i := by
  have hle := Nat.le_of_lt hi
  have w := upto_le lex_All.within a i hle
  have g := upto_le lex_All.digit a i hle
  unfold act
  rw [bt_left a b i hi, upto_left lex_All.nl a b rfl i hle, upto_left lex_All.within a b rfl i hle, upto_left lex_All.digit a b rfl i hle, at2_left a b i hi, cut_left a b i _ w.2, cut_left a b i _ g.2, number_rest _ _ _ (rest_left a b _ g.2)]
theorem rest_right (a b : ByteArray) (e : Nat) : (two a b).extract (a.size + 1 + e) (two a b).size = b.extract e b.size := by
  rw [two_size]
  exact cut_right a b e b.size
theorem at1_right (a b : ByteArray) (i : Nat) : at1 (two a b) (a.size + 1 + i) = at1 b i := by
  unfold at1
  rw [bt_right, show a.size + 1 + i + 1 = a.size + 1 + (i + 1) by omega, cut_right]
theorem at2_right (a b : ByteArray) (i : Nat) : at2 (two a b) (a.size + 1 + i) = at2 b i := by
  have h2 := two_size a b
  unfold at2
  rw [at1_right, show a.size + 1 + i + 2 = a.size + 1 + (i + 2) by omega, cut_right]
  by_cases h : i + 1 < b.size
  · have e : a.size + 1 + i + 1 < (two a b).size := by omega
    simp only [h, e, true_and]
  · have e : ¬ a.size + 1 + i + 1 < (two a b).size := by omega
    simp only [h, e, false_and]
def shiftA (m : Nat) : Act → Act
  | .go j => .go (m + j)
  | .err er => .err er
  | .tok kd e => .tok kd (m + e)
theorem shift_if (m : Nat) (c : Prop) [Decidable c] (x y : Act) : shiftA m (if c then x else y) = if c then shiftA m x else shiftA m y := by split <;> rfl
theorem act_right (a b : ByteArray) (i : Nat) : act (two a b) (a.size + 1 + i) = shiftA (a.size + 1) (act b i) := by
  unfold act
  rw [bt_right, upto_right, upto_right, upto_right, at2_right, cut_right, cut_right, rest_right]
  simp only [shift_if]
  split
  · rfl
  split
  · rfl
  split
  · rfl
  split
  · cases lex_number.f 1 (b.extract i (lex_All.upto lex_All.digit b i)) (b.extract (lex_All.upto lex_All.digit b i) b.size) with
    | none => rfl
    | some p =>
      dsimp only
      split <;> rfl
  · split
    · rfl
    · show Act.tok 4 _ = Act.tok 4 _
      rw [Nat.add_assoc]
end LexP
namespace LexP
def R (s : ByteArray) (i : Nat) : Option (List S49) := run s (s.size - i + 1) i
theorem act_on (s : ByteArray) (i : Nat) (hlt : i < s.size) : (∀ j, act s i = .go j → i < j ∧ j ≤ s.size) ∧ (∀ kd e, act s i = .tok kd e → i < e ∧ e ≤ s.size) := by
  have hr := act_rule s i [] hlt (by show 0 < _; omega)
  constructor
  · intro j h
    rw [h] at hr
    exact ⟨hr.1, hr.2.1⟩
  · intro kd e h
    rw [h] at hr
    exact ⟨hr.1, hr.2.1⟩
theorem run_fuel (s : ByteArray) : ∀ (d d' i : Nat), s.size - i < d → s.size - i < d' → i ≤ s.size → run s d i = run s d' i := by
  intro d
  induction d with
  | zero => intro d' i h; omega
  | succ d ih =>
    intro d' i h h' hi
    cases d' with
    | zero => omega
    | succ d' =>
      simp only [run]
      by_cases hlt : i < s.size
      · rw [if_pos hlt, if_pos hlt]
        have ha := act_on s i hlt
        cases hc : act s i with
        | go j =>
          have := ha.1 j hc
          exact ih d' j (by omega) (by omega) this.2
        | err er => rfl
        | tok kd e =>
          have := ha.2 kd e hc
          dsimp only
          rw [ih d' e (by omega) (by omega) this.2]
      · rw [if_neg hlt, if_neg hlt]
theorem R_go (s : ByteArray) (i j : Nat) (hlt : i < s.size) (h : act s i = .go j) : R s i = R s j := by
  have ha := (act_on s i hlt).1 j h
  unfold R
  rw [show run s (s.size - i + 1) i = run s (s.size - i) j by simp only [run]; rw [if_pos hlt, h]]
  exact run_fuel s _ _ j (by omega) (by omega) ha.2
theorem R_err (s : ByteArray) (i : Nat) (er : Int) (hlt : i < s.size) (h : act s i = .err er) : R s i = none := by
  unfold R
  simp only [run]
  rw [if_pos hlt, h]
theorem R_tok (s : ByteArray) (i e : Nat) (kd : Int) (hlt : i < s.size) (h : act s i = .tok kd e) : R s i = (R s e).map fun l => (⟨kd, s.extract i e, (i : Int)⟩ : S49) :: l := by
  have ha := (act_on s i hlt).2 kd e h
  unfold R
  rw [show run s (s.size - i + 1) i = (run s (s.size - i) e).map (fun l => (⟨kd, s.extract i e, (i : Int)⟩ : S49) :: l) by simp only [run]; rw [if_pos hlt, h]]
  rw [run_fuel s _ (s.size - e + 1) e (by omega) (by omega) ha.2]
theorem R_end (s : ByteArray) : R s s.size = some [⟨0, ⟨#[]⟩, (s.size : Int)⟩] := by
  unfold R
  simp only [run]
  rw [if_neg (by omega)]
def sh (m : Nat) (t : S49) : S49 := ⟨t.f0, t.f1, t.f2 + (m : Int)⟩
theorem R_right (a b : ByteArray) : ∀ (d i : Nat), b.size - i ≤ d → i ≤ b.size → R (two a b) (a.size + 1 + i) = (R b i).map (List.map (sh (a.size + 1))) := by
  have h2 := two_size a b
  intro d
  induction d with
  | zero =>
    intro i hd hi
    have hib : i = b.size := by omega
    subst hib
    rw [← h2, R_end, R_end, h2]
    simp only [Option.map_some, List.map_cons, List.map_nil, sh]
    rw [show ((a.size + 1 + b.size : Nat) : Int) = (b.size : Int) + ((a.size + 1 : Nat) : Int) by omega]
  | succ d ih =>
    intro i hd hi
    by_cases hlt : i < b.size
    · have hr := act_right a b i
      have ha := act_on b i hlt
      cases hc : act b i with
      | go j =>
        rw [hc] at hr
        have := ha.1 j hc
        rw [R_go _ _ _ (by omega) hr, R_go _ _ _ hlt hc]
        exact ih j (by omega) this.2
      | err er =>
        rw [hc] at hr
        rw [R_err _ _ _ (by omega) hr, R_err _ _ _ hlt hc]
        rfl
      | tok kd e =>
        rw [hc] at hr
        have := ha.2 kd e hc
        rw [R_tok _ _ _ _ (by omega) hr, R_tok _ _ _ _ hlt hc, ih e (by omega) this.2, cut_right]
        cases R b e with
        | none => rfl
        | some l =>
          simp only [Option.map_some, List.map_cons, sh]
          rw [show ((a.size + 1 + i : Nat) : Int) = (i : Int) + ((a.size + 1 : Nat) : Int) by omega]
    · have hib : i = b.size := by omega
      subst hib
      rw [← h2, R_end, R_end, h2]
      simp only [Option.map_some, List.map_cons, List.map_nil, sh]
      rw [show ((a.size + 1 + b.size : Nat) : Int) = (b.size : Int) + ((a.size + 1 : Nat) : Int) by omega]
theorem R_mid (a b : ByteArray) : R (two a b) a.size = (R b 0).map (List.map (sh (a.size + 1))) := by
  have h2 := two_size a b
  have hm : act (two a b) a.size = .go (a.size + 1) := by
    unfold act
    rw [bt_mid, if_pos (by unfold Blank; omega)]
  rw [R_go _ _ _ (by omega) hm]
  exact R_right a b b.size 0 (by omega) (by omega)
theorem R_left (a b : ByteArray) : ∀ (d i : Nat) (L : List S49), a.size - i ≤ d → i ≤ a.size → R a i = some L → ∃ L0, L = L0 ++ [⟨0, ⟨#[]⟩, (a.size : Int)⟩] ∧ R (two a b) i = (R (two a b) a.size).map fun l => L0 ++ l := by
  have h2 := two_size a b
  have hend : ∀ L, R a a.size = some L → ∃ L0, L = L0 ++ [(⟨0, ⟨#[]⟩, (a.size : Int)⟩ : S49)] ∧ R (two a b) a.size = (R (two a b) a.size).map fun l => L0 ++ l := by
    intro L h
    rw [R_end] at h
    refine ⟨[], (Option.some.inj h).symm, ?_⟩
    cases R (two a b) a.size <;> rfl
  intro d
  induction d with
  | zero =>
    intro i L hd hi h
    have hia : i = a.size := by omega
    subst hia
    exact hend L h
  | succ d ih =>
    intro i L hd hi h
    by_cases hlt : i < a.size
    · have hr := act_left a b i hlt
      have ha := act_on a i hlt
      cases hc : act a i with
      | go j =>
        rw [hc] at hr
        have := ha.1 j hc
        rw [R_go _ _ _ hlt hc] at h
        obtain ⟨L0, e1, e2⟩ := ih j L (by omega) this.2 h
        exact ⟨L0, e1, by rw [R_go _ _ _ (by omega) hr, e2]⟩
      | err er =>
        rw [R_err _ _ _ hlt hc] at h
        cases h
      | tok kd e =>
        rw [hc] at hr
        have := ha.2 kd e hc
        rw [R_tok _ _ _ _ hlt hc] at h
        obtain ⟨L1, h1, h3⟩ := Option.map_eq_some_iff.1 h
        obtain ⟨L0, e1, e2⟩ := ih e L1 (by omega) this.2 h1
        refine ⟨⟨kd, a.extract i e, (i : Int)⟩ :: L0, by rw [← h3, e1]; rfl, ?_⟩
        rw [R_tok _ _ _ _ (by omega) hr, e2, cut_left a b i e this.2]
        cases R (two a b) a.size <;> rfl
    · have hia : i = a.size := by omega
      subst hia
      exact hend L h
end LexP
namespace LexP
theorem run_size (s : ByteArray) : ∀ (d i : Nat) (L : List S49), i ≤ s.size → run s d i = some L → L.length ≤ s.size - i + 1 ∧ (∀ t ∈ L, 0 ≤ t.f2 ∧ t.f2 ≤ (s.size : Int)) := by
  intro d
  induction d with
  | zero => intro i L hi h; cases h
  | succ d ih =>
    intro i L hi h
    simp only [run] at h
    by_cases hlt : i < s.size
    · rw [if_pos hlt] at h
      have ha := act_on s i hlt
      cases hc : act s i with
      | go j =>
        rw [hc] at h
        have := ha.1 j hc
        have h2 := ih j L this.2 h
        exact ⟨by omega, h2.2⟩
      | err er => rw [hc] at h; cases h
      | tok kd e =>
        rw [hc] at h
        have := ha.2 kd e hc
        obtain ⟨L1, h1, h3⟩ := Option.map_eq_some_iff.1 h
        have h2 := ih e L1 this.2 h1
        subst h3
        refine ⟨by rw [List.length_cons]; omega, fun t ht => ?_⟩
        rcases List.mem_cons.1 ht with rfl | ht
        · exact ⟨by show (0 : Int) ≤ (i : Int); omega, by show (i : Int) ≤ _; omega⟩
        · exact h2.2 t ht
    · rw [if_neg hlt] at h
      have h2 := (Option.some.inj h).symm
      subst h2
      refine ⟨by rw [List.length_singleton]; omega, fun t ht => ?_⟩
      rw [List.mem_singleton] at ht
      subst ht
      exact ⟨by show (0 : Int) ≤ (s.size : Int); omega, Int.le_refl _⟩
theorem rd_get (l : List S49) (i : Nat) (h : i < l.length) : rd_T49 l (i : Int) = l[i] := by
  simp [rd_T49, List.getD_eq_getElem?_getD, h]
theorem joins_l0 (x0 : ByteArray) (h0 : x0.size ≤ 300) (x5 L0 x8 x11 : List S49) (e5 : S49) (h5 : x5 = L0 ++ [e5]) (h11 : x11 = L0 ++ x8.map (sh (x0.size + 1))) (hl : x5.length ≤ 10000) (hl8 : x8.length ≤ 10000) (hf : ∀ t ∈ x8, 0 ≤ t.f2 ∧ t.f2 ≤ 300)
    (haw : Ev (fun k => (aquiferlaw11_awake.f k).bind fun t => some t) true) : ∀ d i, i + d = x11.length → Ev (fun k => aquiferlaw11_LexJoins.l0 k x0 x5 x8 x11 (i : Int)) true := by
  have e1 : x5.length = L0.length + 1 := by rw [h5, List.length_append, List.length_singleton]
  have e2 : x11.length = L0.length + x8.length := by rw [h11, List.length_append, List.length_map]
  have w1 : wrap64 ((x5.length : Int) - 1) = (L0.length : Int) := by rw [w64 (by omega) (by omega)]; omega
  intro d
  induction d with
  | zero =>
    intro i hd
    refine Ev.step (fun k => ?_) haw
    simp only [aquiferlaw11_LexJoins.l0]
    rw [if_neg (by omega)]
  | succ d ih =>
    intro i hd
    have hi : i < x11.length := by omega
    have w2 : wrap64 ((i : Int) + 1) = ((i + 1 : Nat) : Int) := by rw [w64 (by omega) (by omega)]; omega
    refine Ev.step (fun k => ?_) (ih (i + 1) (by omega))
    simp only [aquiferlaw11_LexJoins.l0]
    rw [if_pos (by omega), w1, w2]
    by_cases hL : i < L0.length
    · have r : rd_T49 x11 (i : Int) = rd_T49 x5 (i : Int) := by
        rw [rd_get x11 i hi, rd_get x5 i (by omega)]
        simp only [h11, h5]
        rw [List.getElem_append_left hL, List.getElem_append_left hL]
      rw [if_pos (by omega), if_pos (by omega), if_pos (by omega), r, if_neg (by simp)]
    · have w3 : wrap64 (wrap64 ((i : Int) - (x5.length : Int)) + 1) = ((i - L0.length : Nat) : Int) := by
        rw [show wrap64 ((i : Int) - (x5.length : Int)) = (i : Int) - (x5.length : Int) by unfold wrap64; omega, w64 (by omega) (by omega)]
        omega
      have hj : i - L0.length < x8.length := by omega
      have r : rd_T49 x11 (i : Int) = sh (x0.size + 1) (x8[i - L0.length]) := by
        rw [rd_get x11 i hi]
        simp only [h11]
        rw [List.getElem_append_right (by omega), List.getElem_map]
      have r2 : rd_T49 x8 ((i - L0.length : Nat) : Int) = x8[i - L0.length] := rd_get x8 _ hj
      have hb := hf _ (List.getElem_mem hj)
      rw [if_neg (by omega), w3, if_pos (by omega), if_pos (by omega), if_pos (by omega), r, r2]
      generalize x8[i - L0.length] = t at hb
      have w4 : wrap64 (wrap64 (t.f2 + (x0.size : Int)) + 1) = t.f2 + ((x0.size + 1 : Nat) : Int) := by
        rw [w64 (n := t.f2 + (x0.size : Int)) (by omega) (by omega), w64 (by omega) (by omega)]
        omega
      rw [w4, if_neg (by simp [sh])]
theorem lex_ev (s : ByteArray) (hs : s.size ≤ 8192) {r : Res} (h : Ev (fun k => lex_All.l0 k s [] 0) r) : Ev (fun k => lex_Lex.f k s) r := by
  refine Ev.congr (f := fun k => (lex_All.l0 k s [] 0).bind fun (b : Res) => some (b.1, b.2.1, b.2.2)) (fun k => ?_) (Ev.bind h (Ev.now _))
  unfold lex_Lex.f lex_All.f
  rw [if_neg (by omega), if_pos (by omega)]
/-- What the reader tells of a text. -/
theorem lex_told (s : ByteArray) (hs : s.size ≤ 8192) : (∃ L, R s 0 = some L ∧ Ev (fun k => lex_Lex.f k s) ((L, 0, 0) : Res)) ∨ (∃ er a : Int, er ≠ 0 ∧ Ev (fun k => lex_Lex.f k s) (([], er, a) : Res)) := by
  have h := run_told s hs (s.size - 0 + 1) 0 [] (by omega) (Nat.zero_le _) (Nat.le_refl _)
  unfold R
  cases hr : run s (s.size - 0 + 1) 0 with
  | some L =>
    rw [hr] at h
    exact Or.inl ⟨L, rfl, lex_ev s hs h⟩
  | none =>
    rw [hr] at h
    obtain ⟨er, a, h1, h2⟩ := h
    exact Or.inr ⟨er, a, h1, lex_ev s hs h2⟩
theorem awake_ev : Ev (fun k => aquiferlaw11_awake.f k) true := Ev.of aquiferlaw11_awake.mono (k := 60) (by decide +kernel)
theorem awake_ev2 : Ev (fun k => (aquiferlaw11_awake.f k).bind fun t => some t) true := Ev.bind (f := fun _ t => some t) awake_ev (Ev.now _)
theorem j1_true (a b : ByteArray) (x5 x8 : List S49) : Ev (fun k => aquiferlaw11_LexJoins.j1 k a b x5 x8 true) true := by
  refine Ev.step (fun k => ?_) awake_ev2
  simp only [aquiferlaw11_LexJoins.j1]
  rw [if_pos trivial]
theorem j1_false (a b : ByteArray) (ha : a.size ≤ 300) (hb : b.size ≤ 300) (x5 x8 : List S49) (h5 : R a 0 = some x5) (h8 : R b 0 = some x8) : Ev (fun k => aquiferlaw11_LexJoins.j1 k a b x5 x8 false) true := by
  have h2 := two_size a b
  obtain ⟨L0, e1, e2⟩ := R_left a b a.size 0 x5 (by omega) (Nat.zero_le _) h5
  rw [R_mid, h8] at e2
  simp only [Option.map_some] at e2
  have s5 := run_size a _ 0 x5 (Nat.zero_le _) h5
  have s8 := run_size b _ 0 x8 (Nat.zero_le _) h8
  have q5 : x5.length ≤ 10000 := by omega
  have q8 : x8.length ≤ 10000 := by omega
  have qf : ∀ t ∈ x8, 0 ≤ t.f2 ∧ t.f2 ≤ 300 := fun t ht => ⟨(s8.2 t ht).1, by have := (s8.2 t ht).2; omega⟩
  have htold := run_told (two a b) (by omega) ((two a b).size - 0 + 1) 0 [] (by omega) (Nat.zero_le _) (Nat.le_refl _)
  rw [show run (two a b) ((two a b).size - 0 + 1) 0 = R (two a b) 0 from rfl, e2] at htold
  have hlex := lex_ev (two a b) (by omega) htold
  rw [List.nil_append] at hlex
  have z1 : (a ++ (⟨#[10]⟩ : ByteArray)).size = a.size + 1 := by rw [ByteArray.size_append]; rfl
  have l5 : x5.length = L0.length + 1 := by rw [e1, List.length_append, List.length_singleton]
  have l11 : (L0 ++ x8.map (sh (a.size + 1))).length = L0.length + x8.length := by rw [List.length_append, List.length_map]
  have z2 : a.size + 1 ≤ 9223372036854775807 := by omega
  have z3 : (a ++ (⟨#[10]⟩ : ByteArray)).size + b.size ≤ 9223372036854775807 := by omega
  have wl : wrap64 (wrap64 ((x5.length : Int) + (x8.length : Int)) - 1) = ((L0 ++ x8.map (sh (a.size + 1))).length : Int) := by
    rw [l11, w64 (n := (x5.length : Int) + (x8.length : Int)) (by omega) (by omega), w64 (by omega) (by omega)]
    omega
  have hloop : Ev (fun k => aquiferlaw11_LexJoins.j2 k a x5 x8 (L0 ++ x8.map (sh (a.size + 1))) false) true := by
    refine Ev.step (fun k => ?_) (joins_l0 a ha x5 L0 x8 _ _ e1 rfl q5 q8 qf awake_ev2 _ 0 (Nat.zero_add _))
    simp only [aquiferlaw11_LexJoins.j2]
    rw [if_neg Bool.false_ne_true]
    rfl
  refine Ev.step (f := fun k => (lex_Lex.f k (two a b)).bind fun bt => (aquiferlaw1_Num.f bt.2.1).bind fun t => if t = 0 then aquiferlaw11_LexJoins.j2 k a x5 x8 bt.1 ((bt.1.length : Int) != wrap64 (wrap64 ((x5.length : Int) + (x8.length : Int)) - 1)) else aquiferlaw11_LexJoins.j2 k a x5 x8 bt.1 true) (fun k => ?_) (Ev.bind hlex ?_)
  · simp only [aquiferlaw11_LexJoins.j1]
    rw [if_neg Bool.false_ne_true, if_pos z2, if_pos z3]
    rfl
  · refine Ev.congr (fun k => ?_) hloop
    unfold aquiferlaw1_Num.f
    rw [Option.bind_some, if_pos rfl]
    show aquiferlaw11_LexJoins.j2 k a x5 x8 (L0 ++ x8.map (sh (a.size + 1))) (((L0 ++ x8.map (sh (a.size + 1))).length : Int) != wrap64 (wrap64 ((x5.length : Int) + (x8.length : Int)) - 1)) = _
    rw [wl, bne_self_eq_false]
theorem j0_true (a b : ByteArray) : Ev (fun k => aquiferlaw11_LexJoins.j0 k a b true) true := by
  refine Ev.step (fun k => ?_) awake_ev2
  simp only [aquiferlaw11_LexJoins.j0]
  rw [if_pos trivial]
theorem j0_false (a b : ByteArray) (ha : a.size ≤ 300) (hb : b.size ≤ 300) : Ev (fun k => aquiferlaw11_LexJoins.j0 k a b false) true := by
  have go : ∀ r q : Res, Ev (fun k => lex_Lex.f k a) r → Ev (fun k => lex_Lex.f k b) q → Ev (fun k => if r.2.1 = 0 then aquiferlaw11_LexJoins.j1 k a b r.1 q.1 (q.2.1 != 0) else aquiferlaw11_LexJoins.j1 k a b r.1 q.1 true) true → Ev (fun k => aquiferlaw11_LexJoins.j0 k a b false) true := by
    intro r q h1 h2 h3
    refine Ev.step (f := fun k => (lex_Lex.f k a).bind fun bt131 => ((lex_Lex.f k b).bind fun bt136 => ((aquiferlaw1_Num.f bt131.2.1).bind fun t141 => (if t141 = 0 then ((aquiferlaw1_Num.f bt136.2.1).bind fun t142 => (aquiferlaw11_LexJoins.j1 k a b bt131.1 bt136.1 (t142 != 0))) else (aquiferlaw11_LexJoins.j1 k a b bt131.1 bt136.1 true))))) (fun k => ?_) (Ev.bind h1 (Ev.bind h2 (Ev.congr (fun k => ?_) h3)))
    · simp only [aquiferlaw11_LexJoins.j0]
      rw [if_neg Bool.false_ne_true]
    · unfold aquiferlaw1_Num.f
      rw [Option.bind_some]
      rfl
  rcases lex_told a (by omega) with ⟨L, e1, h1⟩ | ⟨er, at1, e1, h1⟩
  · rcases lex_told b (by omega) with ⟨K, e2, h2⟩ | ⟨er, at2, e2, h2⟩
    · refine go _ _ h1 h2 (Ev.congr (fun k => ?_) (j1_false a b ha hb L K e1 e2))
      rw [if_pos rfl]
      rfl
    · refine go _ _ h1 h2 (Ev.congr (fun k => ?_) (j1_true a b L []))
      rw [if_pos rfl]
      show aquiferlaw11_LexJoins.j1 k a b L [] (er != 0) = _
      rw [bne_iff_ne.2 e2]
  · rcases lex_told b (by omega) with ⟨K, e2, h2⟩ | ⟨er2, at2, e2, h2⟩
    · refine go _ _ h1 h2 (Ev.congr (fun k => ?_) (j1_true a b [] K))
      rw [if_neg e1]
    · refine go _ _ h1 h2 (Ev.congr (fun k => ?_) (j1_true a b [] []))
      rw [if_neg e1]
end LexP
open LexP in
theorem LexJoins : aquiferlaw11_LexJoins.Pure := by
  intro a b ha hb
  have key : Ev (fun k => aquiferlaw11_LexJoins.f k a b) true := by
    by_cases h1 : (a.size : Int) > 300
    · refine Ev.congr (fun k => ?_) (j0_true a b)
      unfold aquiferlaw11_LexJoins.f
      rw [if_pos h1]
    · by_cases h2 : (b.size : Int) > 300
      · refine Ev.congr (fun k => ?_) (j0_true a b)
        unfold aquiferlaw11_LexJoins.f
        rw [if_neg h1, decide_eq_true h2]
      · refine Ev.congr (fun k => ?_) (j0_false a b (by omega) (by omega))
        unfold aquiferlaw11_LexJoins.f
        rw [if_neg h1, decide_eq_false h2]
  exact key.rounds
end Go.Proofs.Ytlleenoigcjemaa.Pure
