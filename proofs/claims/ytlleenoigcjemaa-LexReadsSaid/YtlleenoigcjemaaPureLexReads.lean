/- The statement LexReads over texts and lists: the reader of the program and the law's own reader tell the same. No further condition. -/
import Derived.Test.YtlleenoigcjemaaQLexReadsx6
namespace Go.Proofs.Ytlleenoigcjemaa.Pure
open Go.RowKit Go.Proofs.Ytlleenoigcjemaa.QLexReads Go.Proofs.YtlleenoigcjemaaW.PrintWords Go.Proofs.YtlleenoigcjemaaW.PrintLast
namespace LexP
theorem toL (s : ByteArray) : s.toList = s.data.toList := Lib.toList_data s
theorem w64 {n : Int} (h0 : 0 ≤ n) (h1 : n ≤ 100000) : wrap64 n = n := by unfold wrap64; omega
theorem bt_cut (s : ByteArray) (i e j : Nat) (h : i + j < e) (he : e ≤ s.size) : bt (s.extract i e) (j : Int) = bt s ((i + j : Nat) : Int) := by
  unfold bt
  simp only [Int.toNat_natCast]
  rw [dif_pos (by simp only [ByteArray.size_extract]; omega), dif_pos (by omega)]
  simp [ByteArray.getElem_extract]
theorem size_cut (s : ByteArray) (i e : Nat) (he : e ≤ s.size) : (s.extract i e).size = e - i := by
  simp only [ByteArray.size_extract]; omega
theorem nil_iff (s : ByteArray) : s.toList = [] ↔ s.size = 0 := by
  rw [toL]
  constructor
  · intro h
    rw [← data_length s, h]; rfl
  · intro h
    exact List.eq_nil_of_length_eq_zero (by rw [data_length s, h])
/-- Where a loop over the text stops. -/
theorem scan_ev {α : Type} (q : Int → Bool) (s : ByteArray) (g fin : Nat → Nat → Option α)
    (hstep : ∀ i, i < s.size → q (bt s (i : Int)) = true → ∀ k, g (k + 1) i = g k (i + 1))
    (hstop : ∀ i, i < s.size → q (bt s (i : Int)) = false → ∀ k, g (k + 1) i = fin k i)
    (hend : ∀ i, i = s.size → ∀ k, g (k + 1) i = fin k i) (r : α) : ∀ d i, i + d = s.size → Ev (fun k => fin k (lex_All.skip q s d i)) r → Ev (fun k => g k i) r := by
  intro d
  induction d with
  | zero =>
    intro i hd h
    exact Ev.step (fun k => hend i (by omega) k) h
  | succ d ih =>
    intro i hd h
    have hi : i < s.size := by omega
    unfold lex_All.skip at h
    rw [if_pos hi] at h
    cases hq : q (bt s (i : Int)) with
    | true =>
      rw [hq, if_pos rfl] at h
      exact Ev.step (fun k => hstep i hi hq k) (ih (i + 1) (by omega) h)
    | false =>
      rw [hq] at h
      exact Ev.step (fun k => hstop i hi hq k) h
theorem upto_ev {α : Type} (q : Int → Bool) (s : ByteArray) (g fin : Nat → Nat → Option α) (r : α) (i : Nat) (hi : i ≤ s.size)
    (hstep : ∀ i, i < s.size → q (bt s (i : Int)) = true → ∀ k, g (k + 1) i = g k (i + 1))
    (hstop : ∀ i, i < s.size → q (bt s (i : Int)) = false → ∀ k, g (k + 1) i = fin k i)
    (hend : ∀ i, i = s.size → ∀ k, g (k + 1) i = fin k i) (h : Ev (fun k => fin k (lex_All.upto q s i)) r) : Ev (fun k => g k i) r :=
  scan_ev q s g fin hstep hstop hend r _ i (by omega) h
theorem skip_end (q : Int → Bool) (s : ByteArray) : ∀ d i, i + d = s.size → lex_All.skip q s d i < s.size → q (bt s ((lex_All.skip q s d i : Nat) : Int)) = false := by
  intro d
  induction d with
  | zero =>
    intro i hd h
    simp only [lex_All.skip] at h
    omega
  | succ d ih =>
    intro i hd h
    have hi : i < s.size := by omega
    unfold lex_All.skip at h ⊢
    rw [if_pos hi] at h ⊢
    cases hq : q (bt s (i : Int)) with
    | true =>
      rw [hq, if_pos rfl] at h
      rw [if_pos rfl]
      exact ih (i + 1) (by omega) h
    | false => simp [hq]
theorem upto_end (q : Int → Bool) (s : ByteArray) (i : Nat) (hi : i ≤ s.size) (h : lex_All.upto q s i < s.size) : q (bt s ((lex_All.upto q s i : Nat) : Int)) = false := skip_end q s _ i (by omega) h
theorem upto_le (q : Int → Bool) (s : ByteArray) (i : Nat) (hi : i ≤ s.size) : i ≤ lex_All.upto q s i ∧ lex_All.upto q s i ≤ s.size := lex_All.skip_le q s _ i hi
theorem upto_on (q : Int → Bool) (s : ByteArray) (i : Nat) (hi : i < s.size) (hq : q (bt s (i : Int)) = true) : i + 1 ≤ lex_All.upto q s i := by
  unfold lex_All.upto
  rw [show s.size - i = (s.size - (i + 1)) + 1 by omega]
  unfold lex_All.skip
  rw [if_pos hi, hq, if_pos rfl]
  exact (lex_All.skip_le q s _ (i + 1) (by omega)).1
theorem within_eq (c : Int) : lex_All.within c = (lex_All.small c || (lex_All.digit c || c == 95)) := by
  have h := lex_All.within_f c
  unfold lex_within.f at h
  rw [lex_All.small_f, lex_All.digit_f] at h
  cases h1 : lex_All.small c <;> cases h2 : lex_All.digit c <;> simp_all
theorem letter_f (c : Int) : aquiferref11_letter.f c = some (lex_All.small c) := lex_All.small_f c
theorem digit_f (c : Int) : aquiferref11_digit.f c = some (lex_All.digit c) := lex_All.digit_f c
/-! ### The key words -/
def KW : List ByteArray := [(⟨#[109, 111, 100, 117, 108, 101]⟩ : ByteArray), (⟨#[105, 109, 112, 111, 114, 116]⟩ : ByteArray), (⟨#[118, 97, 114]⟩ : ByteArray), (⟨#[112, 114, 111, 99]⟩ : ByteArray), (⟨#[112, 99]⟩ : ByteArray), (⟨#[117, 115, 101, 115]⟩ : ByteArray), (⟨#[108, 101, 116]⟩ : ByteArray), (⟨#[99, 97, 108, 108]⟩ : ByteArray), (⟨#[105, 102]⟩ : ByteArray), (⟨#[101, 108, 115, 101]⟩ : ByteArray), (⟨#[119, 104, 105, 108, 101]⟩ : ByteArray), (⟨#[101, 109, 105, 116]⟩ : ByteArray), (⟨#[114, 101, 115, 117, 108, 116]⟩ : ByteArray), (⟨#[115, 107, 105, 112]⟩ : ByteArray), (⟨#[108, 97, 98, 101, 108, 115]⟩ : ByteArray)]
def find (w : ByteArray) : List ByteArray → Nat → Int
  | [], _ => -1
  | x :: t, j => if w.toList = x.toList then (j : Int) else find w t (j + 1)
theorem index_ev (l : List ByteArray) (w : ByteArray) (hl : l.length ≤ 1000) : ∀ d j, j + d = l.length → Ev (fun k => slices_Index_string_string.l0 k l w (l.length : Int) (j : Int)) (find w (l.drop j) j) := by
  intro d
  induction d with
  | zero =>
    intro j hd
    rw [List.drop_eq_nil_of_le (by omega)]
    refine Ev.step (f := fun _ => some (-1)) (fun k => ?_) (Ev.now _)
    simp only [slices_Index_string_string.l0]
    rw [if_neg (by omega)]
  | succ d ih =>
    intro j hd
    have hj : j < l.length := by omega
    have hr : rdOf ByteArray.empty l (j : Int) = l[j] := by simp [rdOf, List.getD_eq_getElem?_getD, hj]
    rw [List.drop_eq_getElem_cons hj]
    unfold find
    by_cases he : w.toList = (l[j]).toList
    · rw [if_pos he]
      refine Ev.step (f := fun _ => some (j : Int)) (fun k => ?_) (Ev.now _)
      simp only [slices_Index_string_string.l0]
      rw [if_pos (by omega), if_pos (by omega), if_pos (by omega), hr, if_pos he]
    · rw [if_neg he]
      refine Ev.step (fun k => ?_) (ih (j + 1) (by omega))
      simp only [slices_Index_string_string.l0]
      rw [if_pos (by omega), if_pos (by omega), if_pos (by omega), hr, if_neg he, w64 (by omega) (by omega)]
      rfl
theorem find_some (w : ByteArray) : ∀ (l : List ByteArray) (j : Nat), find w l j ≥ 0 → ∃ x ∈ l, w.toList = x.toList
  | [], j, h => by simp [find] at h
  | x :: t, j, h => by
    unfold find at h
    by_cases he : w.toList = x.toList
    · exact ⟨x, by simp, he⟩
    · rw [if_neg he] at h
      obtain ⟨y, hy, e⟩ := find_some w t (j + 1) h
      exact ⟨y, by simp [hy], e⟩
def isKey (w : ByteArray) : Bool := decide (find w KW 0 ≥ 0)
theorem key_ev (w : ByteArray) : Ev (fun k => lex_key.f k w) (isKey w) := by
  unfold lex_key.f slices_Contains_string_string.f slices_Index_string_string.f
  refine Ev.bind (f := fun _ t => some t) (a := isKey w) ?_ (Ev.now _)
  exact Ev.bind (f := fun _ (t : Int) => some (decide (t ≥ 0))) (index_ev KW w (by decide) 15 0 rfl) (Ev.now _)
theorem key_short (w : ByteArray) (h : isKey w = true) : w.size ≤ 20 := by
  unfold isKey at h
  obtain ⟨x, hx, e⟩ := find_some w KW 0 (of_decide_eq_true h)
  have h1 : w.size = x.size := by
    rw [← data_length w, ← data_length x, ← toL, ← toL, e]
  rw [h1]
  simp only [KW, List.mem_cons, List.not_mem_nil, or_false] at hx
  rcases hx with rfl | rfl | rfl | rfl | rfl | rfl | rfl | rfl | rfl | rfl | rfl | rfl | rfl | rfl | rfl <;> decide
theorem step_if (c : Prop) [Decidable c] (B : Option Bool) (x y : Int) (hx : 0 ≤ x) (h2 : B = some (decide (y ≥ 0))) : (if c then some true else B) = some (decide ((if c then x else y) ≥ 0)) := by
  by_cases h : c
  · rw [if_pos h, if_pos h, decide_eq_true hx]
  · rw [if_neg h, if_neg h, h2]
theorem key_ref (w : ByteArray) : aquiferref11_Key.f w = some (isKey w) := by
  unfold aquiferref11_Key.f isKey
  simp only [KW, find, toL]
  repeat (refine step_if _ _ _ _ (by decide) ?_)
  rfl
end LexP
namespace LexP
/-! ### The signs -/
theorem prefix_f (x p : ByteArray) : strings_HasPrefix.f x p = some (decide (p.size ≤ x.size ∧ (x.extract 0 p.size).toList = p.toList)) := by
  unfold strings_HasPrefix.f stringslite_HasPrefix.f
  by_cases h : p.size ≤ x.size
  · rw [if_pos (by omega), if_pos (by omega), if_pos (by omega)]
    by_cases h2 : (x.extract 0 p.size).toList = p.toList <;> simp [h, h2]
  · rw [if_neg (by omega)]
    simp [h]
theorem byte_in : ∀ n : Nat, n < 256 → (decide (Lib.indexByte [40, 41, 123, 125, 44, 59, 58, 46, 61, 60, 43, 45, 42, 47, 37, 33] n.toUInt8 ≥ 0)) = decide (n = 40 ∨ n = 41 ∨ n = 123 ∨ n = 125 ∨ n = 44 ∨ n = 59 ∨ n = 58 ∨ n = 46 ∨ n = 61 ∨ n = 60 ∨ n = 43 ∨ n = 45 ∨ n = 42 ∨ n = 47 ∨ n = 37 ∨ n = 33) := by decide +kernel
def one (c : Int) : Prop := c = 40 ∨ c = 41 ∨ c = 123 ∨ c = 125 ∨ c = 44 ∨ c = 59 ∨ c = 58 ∨ c = 46 ∨ c = 61 ∨ c = 60 ∨ c = 43 ∨ c = 45 ∨ c = 42 ∨ c = 47 ∨ c = 37 ∨ c = 33
instance (c : Int) : Decidable (one c) := by unfold one; infer_instance
theorem one_f (c : Int) (h0 : 0 ≤ c) (h1 : c ≤ 255) : (Lib.indexByte [40, 41, 123, 125, 44, 59, 58, 46, 61, 60, 43, 45, 42, 47, 37, 33] c.toNat.toUInt8 ≥ 0) ↔ one c := by
  have h := decide_eq_decide.1 (byte_in c.toNat (by omega))
  rw [h]
  unfold one
  omega
def at1 (s : ByteArray) (i : Nat) : ByteArray := if one (bt s (i : Int)) then s.extract i (i + 1) else ⟨#[]⟩
theorem step_one (c : Prop) [Decidable c] (d : Prop) [Decidable d] (A E : ByteArray) (B : Option ByteArray) (hc : c → d) (h : ¬ c → B = some (if d then A else E)) : (if c then some A else B) = some (if d then A else E) := by
  by_cases h1 : c
  · rw [if_pos h1, if_pos (hc h1)]
  · rw [if_neg h1, h h1]
theorem ref_one (s : ByteArray) (i : Nat) (hs : s.size ≤ 8192) (hi : i < s.size) (k : Nat) : aquiferref11_sign.j0 (k + 1) s (i : Int) = some (at1 s i) := by
  simp only [aquiferref11_sign.j0]
  rw [w64 (n := (i : Int) + 1) (by omega) (by omega)]
  have e1 : (0 ≤ (i : Int)) = True := eq_true (by omega)
  have e2 : ((i : Int) < (s.size : Int)) = True := eq_true (by omega)
  have e3 : ((i : Int) ≤ (i : Int) + 1) = True := eq_true (by omega)
  have e4 : ((i : Int) + 1 ≤ (s.size : Int)) = True := eq_true (by omega)
  have e5 : ((i : Int) + 1).toNat = i + 1 := by omega
  simp only [e1, e2, e3, e4, e5, if_true, Int.toNat_natCast]
  unfold at1
  generalize bt s (i : Int) = c
  repeat (refine step_one _ _ _ _ _ (fun h => by unfold one; omega) (fun _ => ?_))
  rw [if_neg (by unfold one; omega)]
def at2 (s : ByteArray) (i : Nat) : ByteArray :=
  if i + 1 < s.size ∧ ((s.extract i (i + 2)).toList = [61, 61] ∨ (s.extract i (i + 2)).toList = [60, 61] ∨ (s.extract i (i + 2)).toList = [45, 62]) then s.extract i (i + 2) else at1 s i
theorem ref_sign (s : ByteArray) (i : Nat) (hs : s.size ≤ 8192) (hi : i < s.size) : Ev (fun k => aquiferref11_sign.f k s (i : Int)) (at2 s i) := by
  refine Ev.step (f := fun _ => some (at2 s i)) (fun k => ?_) (Ev.now _)
  unfold aquiferref11_sign.f at2
  rw [w64 (n := (i : Int) + 1) (by omega) (by omega), w64 (n := (i : Int) + 2) (by omega) (by omega), ref_one s i hs hi k]
  by_cases h : i + 1 < s.size
  · rw [if_pos (by omega), if_pos (by omega), if_pos (by omega), if_pos (by omega), show ((i : Int) + 2).toNat = i + 2 by omega, Int.toNat_natCast]
    by_cases h1 : (s.extract i (i + 2)).toList = [61, 61]
    · rw [if_pos h1, if_pos ⟨h, .inl h1⟩]
    · rw [if_neg h1]
      by_cases h2 : (s.extract i (i + 2)).toList = [60, 61]
      · rw [if_pos h2, if_pos ⟨h, .inr (.inl h2)⟩]
      · rw [if_neg h2]
        by_cases h3 : (s.extract i (i + 2)).toList = [45, 62]
        · rw [if_pos h3, if_pos ⟨h, .inr (.inr h3)⟩]
        · rw [if_neg h3, if_neg (by rintro ⟨_, h | h | h⟩ <;> contradiction)]
  · rw [if_neg (by omega), if_neg (by omega)]
theorem ext_of {a b : ByteArray} (h : a.toList = b.toList) : a = b := by
  rw [toL, toL] at h
  cases a; cases b
  simpa using h
theorem rest_cut (s : ByteArray) (i n : Nat) (h : i + n ≤ s.size) : (s.extract i s.size).extract 0 n = s.extract i (i + n) := by
  rw [ByteArray.extract_extract]
  congr 1 <;> omega
theorem lex_sign_end (s : ByteArray) (i : Nat) (hi : i < s.size) (k : Nat) (y : List ByteArray) (n : Int) : lex_sign.l0 (k + 1) (s.extract i s.size) y n n = some (at1 s i) := by
  have hz : (s.extract i s.size).size = s.size - i := size_cut s i s.size (Nat.le_refl _)
  simp only [lex_sign.l0]
  rw [if_neg (by omega), if_neg (by rw [nil_iff]; omega), if_pos (by omega)]
  have hb : bt (s.extract i s.size) 0 = bt s (i : Int) := by
    have := bt_cut s i s.size 0 (by omega) (Nat.le_refl _)
    simpa using this
  rw [hb]
  unfold strings_IndexByte.f
  simp only [Option.bind_some]
  have h1 := one_f (bt s (i : Int)) (bt_range s _).1 (bt_range s _).2
  unfold at1
  by_cases h : one (bt s (i : Int))
  · rw [if_pos (h1.2 h), if_pos (by omega), if_pos (by omega), if_pos h, rest_cut s i 1 (by omega)]
  · rw [if_neg (fun e => h (h1.1 e)), if_neg h]
theorem sign_round (x : ByteArray) (y : List ByteArray) (j : Nat) (p : ByteArray) (hj : y[j]? = some p) (hl : y.length ≤ 1000) (r : ByteArray)
    (h1 : p.size ≤ x.size ∧ (x.extract 0 p.size).toList = p.toList → r = p) (h2 : ¬ (p.size ≤ x.size ∧ (x.extract 0 p.size).toList = p.toList) → Ev (fun k => lex_sign.l0 k x y (y.length : Int) ((j + 1 : Nat) : Int)) r) :
    Ev (fun k => lex_sign.l0 k x y (y.length : Int) (j : Int)) r := by
  obtain ⟨hlt, hp⟩ := List.getElem?_eq_some_iff.1 hj
  have hr : rdOf ByteArray.empty y (j : Int) = p := by simp [rdOf, List.getD_eq_getElem?_getD, hj]
  by_cases h : p.size ≤ x.size ∧ (x.extract 0 p.size).toList = p.toList
  · refine Ev.step (f := fun _ => some r) (fun k => ?_) (Ev.now _)
    simp only [lex_sign.l0]
    rw [if_pos (by omega), if_pos (by omega), if_pos (by omega), hr, prefix_f, decide_eq_true h, h1 h]
    rfl
  · refine Ev.step (fun k => ?_) (h2 h)
    simp only [lex_sign.l0]
    rw [if_pos (by omega), if_pos (by omega), if_pos (by omega), hr, prefix_f, decide_eq_false h, w64 (by omega) (by omega)]
    rfl
theorem lex_sign_ev (s : ByteArray) (i : Nat) (hi : i < s.size) : Ev (fun k => lex_sign.f k (s.extract i s.size)) (at2 s i) := by
  have hz : (s.extract i s.size).size = s.size - i := size_cut s i s.size (Nat.le_refl _)
  have key : ∀ p : ByteArray, p.size = 2 → (p.size ≤ (s.extract i s.size).size ∧ ((s.extract i s.size).extract 0 p.size).toList = p.toList ↔ i + 1 < s.size ∧ (s.extract i (i + 2)).toList = p.toList) := by
    intro p hp
    rw [hp, hz]
    constructor
    · rintro ⟨h1, h2⟩
      rw [rest_cut s i 2 (by omega)] at h2
      exact ⟨by omega, h2⟩
    · rintro ⟨h1, h2⟩
      rw [rest_cut s i 2 (by omega)]
      exact ⟨by omega, h2⟩
  have L : ∀ l : List UInt8, (⟨l.toArray⟩ : ByteArray).toList = l := fun l => by rw [toL]
  unfold lex_sign.f
  simp only [Option.bind_some]
  unfold at2
  have k0 := key (⟨#[61, 61]⟩ : ByteArray) rfl
  have k1 := key (⟨#[60, 61]⟩ : ByteArray) rfl
  have k2 := key (⟨#[45, 62]⟩ : ByteArray) rfl
  refine sign_round _ _ 0 (⟨#[61, 61]⟩ : ByteArray) rfl (by decide) _ (fun h => ?_) (fun h0 => ?_)
  · have h := k0.1 h
    rw [if_pos ⟨h.1, .inl (h.2.trans (L [61, 61]))⟩]
    exact ext_of h.2
  refine sign_round _ _ 1 (⟨#[60, 61]⟩ : ByteArray) rfl (by decide) _ (fun h => ?_) (fun h1 => ?_)
  · have h := k1.1 h
    rw [if_pos ⟨h.1, .inr (.inl (h.2.trans (L [60, 61])))⟩]
    exact ext_of h.2
  refine sign_round _ _ 2 (⟨#[45, 62]⟩ : ByteArray) rfl (by decide) _ (fun h => ?_) (fun h2 => ?_)
  · have h := k2.1 h
    rw [if_pos ⟨h.1, .inr (.inr (h.2.trans (L [45, 62])))⟩]
    exact ext_of h.2
  rw [if_neg (by
    rintro ⟨ha, h | h | h⟩
    · exact h0 (k0.2 ⟨ha, h.trans (L [61, 61]).symm⟩)
    · exact h1 (k1.2 ⟨ha, h.trans (L [60, 61]).symm⟩)
    · exact h2 (k2.2 ⟨ha, h.trans (L [45, 62]).symm⟩))]
  exact Ev.step (f := fun _ => some (at1 s i)) (fun k => lex_sign_end s i hi k _ 3) (Ev.now _)
theorem at1_size (s : ByteArray) (i : Nat) (hi : i < s.size) : i + (at1 s i).size ≤ s.size ∧ ((at1 s i).toList = [] ∨ 1 ≤ (at1 s i).size) := by
  unfold at1
  split
  · rw [size_cut s i (i + 1) (by omega)]
    exact ⟨by omega, .inr (by omega)⟩
  · exact ⟨by show i + 0 ≤ s.size; omega, .inl (by rw [nil_iff]; rfl)⟩
theorem at2_size (s : ByteArray) (i : Nat) (hi : i < s.size) : i + (at2 s i).size ≤ s.size ∧ ((at2 s i).toList = [] ∨ 1 ≤ (at2 s i).size) := by
  unfold at2
  split
  · rename_i h
    rw [size_cut s i (i + 2) (by omega)]
    exact ⟨by omega, .inr (by omega)⟩
  · exact at1_size s i hi
end LexP
namespace LexP
abbrev Res : Type := (List S49) × Int × Int
/-! ### Words and numbers -/
theorem word_both (s : ByteArray) (hs : s.size ≤ 8192) (i e : Nat) (hi : i ≤ e) (he : e ≤ s.size) (out : List S49) (hl : out.length < 4398046511104) :
    ∃ kd er, Ev (fun k => lex_word.f k (s.extract i e)) (kd, er) ∧
      (if er = 0 then ∀ r : Res, Ev (fun k => aquiferref11_Lex.l0 k s (out ++ [⟨kd, s.extract i e, (i : Int)⟩]) (e : Int)) r → Ev (fun k => aquiferref11_Lex.j4 k s out (i : Int) (e : Int)) r
       else Ev (fun k => aquiferref11_Lex.j4 k s out (i : Int) (e : Int)) (([] : List S49), er, (i : Int))) := by
  have hz := size_cut s i e he
  have hw : wrap64 ((e : Int) - (i : Int)) = (e : Int) - (i : Int) := w64 (by omega) (by omega)
  have hj : ∀ k, aquiferref11_Lex.j4 (k + 1) s out (i : Int) (e : Int) = (if isKey (s.extract i e) = true then (if (e : Int) - (i : Int) > 20 then (some (([] : List (S49)), 9, (i : Int))) else (aquiferref11_Lex.l0 k s (out ++ [(⟨3, s.extract i e, (i : Int)⟩ : S49)]) (e : Int))) else (if (e : Int) - (i : Int) > 20 then (some (([] : List (S49)), 9, (i : Int))) else (aquiferref11_Lex.l0 k s (out ++ [(⟨1, s.extract i e, (i : Int)⟩ : S49)]) (e : Int)))) := by
    intro k
    simp only [aquiferref11_Lex.j4]
    rw [if_pos (by omega), if_pos (by omega), if_pos (by omega), Int.toNat_natCast, Int.toNat_natCast, key_ref, hw, if_pos hl]
    simp only [Option.bind_some, if_pos hl]
  unfold lex_word.f
  cases hk : isKey (s.extract i e) with
  | true =>
    have hsz := key_short _ hk
    refine ⟨3, 0, Ev.bind (f := fun _ (t : Bool) => if t = true then some ((3 : Int), (0 : Int)) else if ((s.extract i e).size : Int) > 20 then some (0, 9) else some (1, 0)) (key_ev _) ?_, ?_⟩
    · rw [hk]
      exact Ev.now _
    · rw [if_pos rfl]
      intro r h
      refine Ev.step (fun k => ?_) h
      rw [hj, hk, if_pos rfl, if_neg (by omega)]
  | false =>
    by_cases h20 : e - i > 20
    · refine ⟨0, 9, Ev.bind (f := fun _ (t : Bool) => if t = true then some ((3 : Int), (0 : Int)) else if ((s.extract i e).size : Int) > 20 then some (0, 9) else some (1, 0)) (key_ev _) ?_, ?_⟩
      · rw [hk]
        refine Ev.congr (fun k => ?_) (Ev.now _)
        rw [if_neg (by decide), if_pos (by omega)]
      · rw [if_neg (by decide)]
        refine Ev.step (fun k => ?_) (Ev.now _)
        rw [hj, hk, if_neg (by decide), if_pos (by omega)]
    · refine ⟨1, 0, Ev.bind (f := fun _ (t : Bool) => if t = true then some ((3 : Int), (0 : Int)) else if ((s.extract i e).size : Int) > 20 then some (0, 9) else some (1, 0)) (key_ev _) ?_, ?_⟩
      · rw [hk]
        refine Ev.congr (fun k => ?_) (Ev.now _)
        rw [if_neg (by decide), if_neg (by omega)]
      · rw [if_pos rfl]
        intro r h
        refine Ev.step (fun k => ?_) h
        rw [hj, hk, if_neg (by decide), if_neg (by omega)]
/-- What a number is, by its length, its first byte and what follows. -/
def numK (s : ByteArray) (i e : Nat) : Int :=
  if e - i > 9 then 9 else if bt s (i : Int) = 48 ∧ e - i > 1 then 10 else if e < s.size ∧ (lex_All.small (bt s (e : Int)) = true ∨ bt s (e : Int) = 95) then 10 else 0
theorem num_both (s : ByteArray) (hs : s.size ≤ 8192) (i e : Nat) (hi : i < e) (he : e ≤ s.size) (hd : e < s.size → lex_All.digit (bt s (e : Int)) = false) (out : List S49) (hl : out.length < 4398046511104) :
    ∃ kd er, Ev (fun k => lex_number.f k (s.extract i e) (s.extract e s.size)) (kd, er) ∧
      (if er = 0 then ∀ r : Res, Ev (fun k => aquiferref11_Lex.l0 k s (out ++ [⟨kd, s.extract i e, (i : Int)⟩]) (e : Int)) r → Ev (fun k => aquiferref11_Lex.j6 k s out (i : Int) (bt s (i : Int)) (e : Int)) r
       else Ev (fun k => aquiferref11_Lex.j6 k s out (i : Int) (bt s (i : Int)) (e : Int)) (([] : List S49), er, (i : Int))) := by
  have hz := size_cut s i e he
  have hz2 := size_cut s e s.size (Nat.le_refl _)
  have hw : wrap64 ((e : Int) - (i : Int)) = (e : Int) - (i : Int) := w64 (by omega) (by omega)
  have b0 : bt (s.extract i e) 0 = bt s (i : Int) := by simpa using bt_cut s i e 0 (by omega) he
  refine ⟨if numK s i e = 0 then 2 else 0, numK s i e, ?_, ?_⟩
  · refine Ev.step (f := fun _ => some (if numK s i e = 0 then 2 else 0, numK s i e)) (fun k => ?_) (Ev.now _)
    unfold lex_number.f numK
    rw [hz, b0]
    by_cases h9 : e - i > 9
    · rw [if_pos (by omega), if_pos h9]; rfl
    rw [if_neg (by omega), if_pos (by omega), if_neg h9]
    have hj : ∀ x, lex_number.j0 (k + 1) (s.extract e s.size) x = if x = true then some (0, 10) else if e < s.size ∧ (lex_All.small (bt s (e : Int)) = true ∨ bt s (e : Int) = 95) then some (0, 10) else some (2, 0) := by
      intro x
      simp only [lex_number.j0]
      by_cases hx : x = true
      · rw [if_pos hx, if_pos hx]
      rw [if_neg hx, if_neg hx]
      by_cases hes : e < s.size
      · have b1 : bt (s.extract e s.size) 0 = bt s (e : Int) := by simpa using bt_cut s e s.size 0 (by omega) (Nat.le_refl _)
        rw [if_neg (by rw [nil_iff]; omega), if_pos (by omega), b1, lex_All.within_f, within_eq, hd hes]
        cases h1 : lex_All.small (bt s (e : Int)) <;> by_cases h2 : bt s (e : Int) = 95 <;> simp [h2, hes]
      · rw [if_pos (by rw [nil_iff]; omega), if_neg (fun h => hes h.1)]
    rw [hj, hj]
    have e7 : decide (((e - i : Nat) : Int) > 1) = decide (e - i > 1) := decide_eq_decide.2 (by omega)
    rw [e7]
    have fin : (if e < s.size ∧ (lex_All.small (bt s (e : Int)) = true ∨ bt s (e : Int) = 95) then some ((0 : Int), (10 : Int)) else some (2, 0)) = some (if (if e < s.size ∧ (lex_All.small (bt s (e : Int)) = true ∨ bt s (e : Int) = 95) then (10 : Int) else 0) = 0 then (2 : Int) else 0, if e < s.size ∧ (lex_All.small (bt s (e : Int)) = true ∨ bt s (e : Int) = 95) then (10 : Int) else 0) := by
      by_cases hB : e < s.size ∧ (lex_All.small (bt s (e : Int)) = true ∨ bt s (e : Int) = 95)
      · rw [if_pos hB, if_pos hB]; rfl
      · rw [if_neg hB, if_neg hB]; rfl
    by_cases hA : bt s (i : Int) = 48 ∧ e - i > 1
    · rw [if_pos hA, if_pos hA.1, decide_eq_true hA.2, if_pos rfl]; rfl
    · rw [if_neg hA]
      by_cases h48 : bt s (i : Int) = 48
      · rw [if_pos h48, decide_eq_false (fun h => hA ⟨h48, h⟩), if_neg (by decide)]
        exact fin
      · rw [if_neg h48, if_neg (by decide)]
        exact fin
  · have hj : ∀ k, aquiferref11_Lex.j6 (k + 1) s out (i : Int) (bt s (i : Int)) (e : Int) = if numK s i e = 0 then aquiferref11_Lex.l0 k s (out ++ [(⟨2, s.extract i e, (i : Int)⟩ : S49)]) (e : Int) else some (([] : List S49), numK s i e, (i : Int)) := by
      intro k
      simp only [aquiferref11_Lex.j6]
      unfold numK
      rw [hw]
      have e1 : (0 ≤ (i : Int)) = True := eq_true (by omega)
      have e2 : ((i : Int) ≤ (e : Int)) = True := eq_true (by omega)
      have e3 : ((e : Int) ≤ (s.size : Int)) = True := eq_true (by omega)
      have e4 : (0 ≤ (e : Int)) = True := eq_true (by omega)
      have e5 : ((e : Int) < (s.size : Int)) = (e < s.size) := by simp
      have e6 : ((e : Int) - (i : Int) > 9) = (e - i > 9) := by apply propext; omega
      have e7 : ((e : Int) - (i : Int) > 1) = (e - i > 1) := by apply propext; omega
      simp only [e1, e2, e3, e4, e5, e6, e7, hl, if_true, Int.toNat_natCast, letter_f, Option.bind_some]
      by_cases h9 : e - i > 9
      · rw [if_pos h9, if_pos h9]; rfl
      rw [if_neg h9, if_neg h9]
      by_cases hes : e < s.size <;> by_cases h1 : e - i > 1 <;> by_cases h48 : bt s (i : Int) = 48 <;> cases hsm : lex_All.small (bt s (e : Int)) <;> by_cases h95 : bt s (e : Int) = 95 <;> simp [hes, h1, h48, h95]
    by_cases h0 : numK s i e = 0
    · rw [if_pos h0, if_pos h0]
      intro r h
      refine Ev.step (fun k => ?_) h
      rw [hj, if_pos h0]
    · rw [if_neg h0]
      refine Ev.step (fun k => ?_) (Ev.now _)
      rw [hj, if_neg h0]
end LexP
namespace LexP
def blank (c : Int) : Bool := decide (c = 32 ∨ c = 9 ∨ c = 10 ∨ c = 13)
theorem ref_in (s : ByteArray) (out : List S49) (i : Nat) (r : Res) (hi : i < s.size) (h : Ev (fun k => aquiferref11_Lex.j1 k s out (i : Int) (bt s (i : Int)) (blank (bt s (i : Int)))) r) : Ev (fun k => aquiferref11_Lex.l0 k s out (i : Int)) r := by
  refine Ev.step (fun k => ?_) h
  simp only [aquiferref11_Lex.l0]
  rw [if_pos (by omega), if_pos (by omega)]
  by_cases h1 : bt s (i : Int) = 32
  · rw [if_pos h1]; simp [blank, h1]
  rw [if_neg h1]
  by_cases h2 : bt s (i : Int) = 9
  · rw [if_pos h2]; simp [blank, h2]
  rw [if_neg h2]
  by_cases h3 : bt s (i : Int) = 10
  · rw [if_pos h3]; simp [blank, h3]
  rw [if_neg h3]
  by_cases h4 : bt s (i : Int) = 13
  · rw [show (bt s (i : Int) == 13) = true from beq_iff_eq.mpr h4]; simp [blank, h4]
  · rw [beq_eq_false_iff_ne.mpr h4]; simp [blank, h1, h2, h3, h4]
/-- Both readers, from i on. -/
def Both (s : ByteArray) (out : List S49) (i : Nat) : Prop := ∃ r : Res, Ev (fun k => lex_All.l0 k s out i) r ∧ Ev (fun k => aquiferref11_Lex.l0 k s out (i : Int)) r ∧ r.1.length ≤ 8193
theorem both_blank (s : ByteArray) (hs : s.size ≤ 8192) (i : Nat) (out : List S49) (hlt : i < s.size) (hb : (bt s (i : Int) = 32 ∨ bt s (i : Int) = 9 ∨ bt s (i : Int) = 10 ∨ bt s (i : Int) = 13)) (ih : Both s out (i + 1)) : Both s out i := by
  obtain ⟨r, h1, h2, hr⟩ := ih
  refine ⟨r, Ev.step (fun k => ?_) h1, ref_in s out i r hlt (Ev.step (fun k => ?_) h2), hr⟩
  · simp only [lex_All.l0]
    rw [if_pos hlt, if_pos hb]
  · simp only [aquiferref11_Lex.j1]
    rw [if_pos (show blank (bt s (i : Int)) = true from decide_eq_true hb), w64 (by omega) (by omega)]
    rfl
theorem both_comment (s : ByteArray) (hs : s.size ≤ 8192) (i : Nat) (out : List S49) (hlt : i < s.size) (hb : ¬ (bt s (i : Int) = 32 ∨ bt s (i : Int) = 9 ∨ bt s (i : Int) = 10 ∨ bt s (i : Int) = 13)) (h35 : bt s (i : Int) = 35) (ih : Both s out (lex_All.upto lex_All.nl s i)) : Both s out i := by
  have hi : i ≤ s.size := Nat.le_of_lt hlt
  have hbf : blank (bt s (i : Int)) = false := decide_eq_false hb
  obtain ⟨r, h1, h2, hr⟩ := ih
  refine ⟨r, Ev.step (fun k => ?_) h1, ref_in s out i r hlt (Ev.step (fun k => ?_) (upto_ev lex_All.nl s (fun k i => aquiferref11_Lex.l1 k s out (i : Int)) (fun k i => aquiferref11_Lex.l0 k s out (i : Int)) r i hi ?_ ?_ ?_ h2)), hr⟩
  · simp only [lex_All.l0]
    rw [if_pos hlt, if_neg hb, if_pos h35]
  · simp only [aquiferref11_Lex.j1]
    rw [hbf, if_neg (by decide), if_pos h35]
  · intro j hj hq k
    simp only [aquiferref11_Lex.l1]
    rw [if_pos (by omega), if_pos (by omega), if_neg (by simpa [lex_All.nl] using hq), w64 (by omega) (by omega)]
    rfl
  · intro j hj hq k
    simp only [aquiferref11_Lex.l1]
    rw [if_pos (by omega), if_pos (by omega), if_pos (by simpa [lex_All.nl] using hq)]
  · intro j hj k
    simp only [aquiferref11_Lex.l1]
    rw [if_neg (by omega)]
theorem both_word (s : ByteArray) (hs : s.size ≤ 8192) (i : Nat) (out : List S49) (hlt : i < s.size) (hl4 : out.length < 4398046511104) (hb : ¬ (bt s (i : Int) = 32 ∨ bt s (i : Int) = 9 ∨ bt s (i : Int) = 10 ∨ bt s (i : Int) = 13)) (h35 : ¬ bt s (i : Int) = 35) (hsm : lex_All.small (bt s (i : Int)) = true) (ih : ∀ t, Both s (out ++ [t]) (lex_All.upto lex_All.within s i)) : Both s out i := by
  have hi : i ≤ s.size := Nat.le_of_lt hlt
  have hbf : blank (bt s (i : Int)) = false := decide_eq_false hb
  have hle := upto_le lex_All.within s i hi
  have hlex : ∀ k, lex_All.l0 (k + 1) s out i = ((lex_word.f k (s.extract i (lex_All.upto lex_All.within s i))).bind fun b => (if b.2 = 0 then (lex_All.l0 k s (out ++ [(⟨b.1, s.extract i (lex_All.upto lex_All.within s i), (i : Int)⟩ : S49)]) (lex_All.upto lex_All.within s i)) else (some (([] : List S49), b.2, (i : Int))))) := by
    intro k
    simp only [lex_All.l0]
    rw [if_pos hlt, if_neg hb, if_neg h35, if_pos hsm]
    simp only [if_pos hl4]
  have href : ∀ r : Res, Ev (fun k => aquiferref11_Lex.j4 k s out (i : Int) ((lex_All.upto lex_All.within s i : Nat) : Int)) r → Ev (fun k => aquiferref11_Lex.l0 k s out (i : Int)) r := by
    intro r h
    refine ref_in s out i r hlt (Ev.step (fun k => ?_) (upto_ev lex_All.within s (fun k j => aquiferref11_Lex.l2 k s out (i : Int) (j : Int)) (fun k j => aquiferref11_Lex.j4 k s out (i : Int) (j : Int)) r i hi ?_ ?_ ?_ h))
    · simp only [aquiferref11_Lex.j1]
      rw [hbf, if_neg (by decide), if_neg h35, letter_f, hsm]
      simp only [Option.bind_some, if_true]
    · intro j hj hq k
      simp only [aquiferref11_Lex.l2]
      rw [if_pos (by omega), if_pos (by omega), letter_f, digit_f, w64 (by omega) (by omega)]
      rw [within_eq] at hq
      cases h1 : lex_All.small (bt s (j : Int)) <;> cases h2 : lex_All.digit (bt s (j : Int)) <;> by_cases h3 : bt s (j : Int) = 95 <;> simp_all
    · intro j hj hq k
      simp only [aquiferref11_Lex.l2]
      rw [if_pos (by omega), if_pos (by omega), letter_f, digit_f]
      rw [within_eq] at hq
      cases h1 : lex_All.small (bt s (j : Int)) <;> cases h2 : lex_All.digit (bt s (j : Int)) <;> by_cases h3 : bt s (j : Int) = 95 <;> simp_all
    · intro j hj k
      simp only [aquiferref11_Lex.l2]
      rw [if_neg (by omega)]
  obtain ⟨kd, er, h1, h2⟩ := word_both s hs i (lex_All.upto lex_All.within s i) hle.1 hle.2 out hl4
  by_cases he : er = 0
  · rw [if_pos he] at h2
    obtain ⟨r, h3, h4, hr⟩ := ih ⟨kd, s.extract i (lex_All.upto lex_All.within s i), (i : Int)⟩
    refine ⟨r, Ev.step hlex (Ev.bind h1 ?_), href r (h2 r h4), hr⟩
    simp only [if_pos he]
    exact h3
  · rw [if_neg he] at h2
    refine ⟨_, Ev.step hlex (Ev.bind h1 ?_), href _ h2, Nat.zero_le _⟩
    simp only [if_neg he]
    exact Ev.now _
theorem both_num (s : ByteArray) (hs : s.size ≤ 8192) (i : Nat) (out : List S49) (hlt : i < s.size) (hl4 : out.length < 4398046511104) (hb : ¬ (bt s (i : Int) = 32 ∨ bt s (i : Int) = 9 ∨ bt s (i : Int) = 10 ∨ bt s (i : Int) = 13)) (h35 : ¬ bt s (i : Int) = 35) (hns : ¬ lex_All.small (bt s (i : Int)) = true) (hsm : lex_All.small (bt s (i : Int)) = false) (hdg : lex_All.digit (bt s (i : Int)) = true) (ih : ∀ t, Both s (out ++ [t]) (lex_All.upto lex_All.digit s i)) : Both s out i := by
  have hi : i ≤ s.size := Nat.le_of_lt hlt
  have hbf : blank (bt s (i : Int)) = false := decide_eq_false hb
  have hon := upto_on lex_All.digit s i hlt hdg
  have hle := upto_le lex_All.digit s i hi
  have hlex : ∀ k, lex_All.l0 (k + 1) s out i = ((lex_number.f k (s.extract i (lex_All.upto lex_All.digit s i)) (s.extract (lex_All.upto lex_All.digit s i) s.size)).bind fun b => (if b.2 = 0 then (lex_All.l0 k s (out ++ [(⟨b.1, s.extract i (lex_All.upto lex_All.digit s i), (i : Int)⟩ : S49)]) (lex_All.upto lex_All.digit s i)) else (some (([] : List S49), b.2, (i : Int))))) := by
    intro k
    simp only [lex_All.l0]
    rw [if_pos hlt, if_neg hb, if_neg h35, if_neg hns, if_pos hdg]
    simp only [if_pos hl4]
  have href : ∀ r : Res, Ev (fun k => aquiferref11_Lex.j6 k s out (i : Int) (bt s (i : Int)) ((lex_All.upto lex_All.digit s i : Nat) : Int)) r → Ev (fun k => aquiferref11_Lex.l0 k s out (i : Int)) r := by
    intro r h
    refine ref_in s out i r hlt (Ev.step (fun k => ?_) (upto_ev lex_All.digit s (fun k j => aquiferref11_Lex.l3 k s out (i : Int) (bt s (i : Int)) (j : Int)) (fun k j => aquiferref11_Lex.j6 k s out (i : Int) (bt s (i : Int)) (j : Int)) r i hi ?_ ?_ ?_ h))
    · simp only [aquiferref11_Lex.j1]
      rw [hbf, if_neg (by decide), if_neg h35, letter_f, hsm, digit_f, hdg]
      simp only [Option.bind_some, if_true]
      rfl
    · intro j hj hq k
      simp only [aquiferref11_Lex.l3]
      rw [if_pos (by omega), if_pos (by omega), digit_f, hq, w64 (by omega) (by omega)]
      rfl
    · intro j hj hq k
      simp only [aquiferref11_Lex.l3]
      rw [if_pos (by omega), if_pos (by omega), digit_f, hq]
      rfl
    · intro j hj k
      simp only [aquiferref11_Lex.l3]
      rw [if_neg (by omega)]
  obtain ⟨kd, er, h1, h2⟩ := num_both s hs i (lex_All.upto lex_All.digit s i) (by omega) hle.2 (upto_end lex_All.digit s i hi) out hl4
  by_cases he : er = 0
  · rw [if_pos he] at h2
    obtain ⟨r, h3, h4, hr⟩ := ih ⟨kd, s.extract i (lex_All.upto lex_All.digit s i), (i : Int)⟩
    refine ⟨r, Ev.step hlex (Ev.bind h1 ?_), href r (h2 r h4), hr⟩
    simp only [if_pos he]
    exact h3
  · rw [if_neg he] at h2
    refine ⟨_, Ev.step hlex (Ev.bind h1 ?_), href _ h2, Nat.zero_le _⟩
    simp only [if_neg he]
    exact Ev.now _
theorem sign_lex (s : ByteArray) (i : Nat) (out : List S49) (hlt : i < s.size) (hl4 : out.length < 4398046511104) (hb : ¬ (bt s (i : Int) = 32 ∨ bt s (i : Int) = 9 ∨ bt s (i : Int) = 10 ∨ bt s (i : Int) = 13)) (h35 : ¬ bt s (i : Int) = 35) (hns : ¬ lex_All.small (bt s (i : Int)) = true) (hdg : lex_All.digit (bt s (i : Int)) = false) : ∀ k, lex_All.l0 (k + 1) s out i = (lex_sign.f k (s.extract i s.size)).bind fun t => (if i + t.size ≤ s.size then (if t.toList = [] then (some (([] : List S49), 10, (i : Int))) else (lex_All.l0 k s (out ++ [(⟨4, t, (i : Int)⟩ : S49)]) (i + t.size))) else none) := by
  have hnd : ¬ lex_All.digit (bt s (i : Int)) = true := by rw [hdg]; decide
  intro k
  simp only [lex_All.l0]
  rw [if_pos hlt, if_neg hb, if_neg h35, if_neg hns, if_neg hnd]
  simp only [if_pos hl4]
theorem sign_ref (s : ByteArray) (i : Nat) (out : List S49) (hl4 : out.length < 4398046511104) (hb : ¬ (bt s (i : Int) = 32 ∨ bt s (i : Int) = 9 ∨ bt s (i : Int) = 10 ∨ bt s (i : Int) = 13)) (h35 : ¬ bt s (i : Int) = 35) (hsm : lex_All.small (bt s (i : Int)) = false) (hdg : lex_All.digit (bt s (i : Int)) = false) : ∀ k, aquiferref11_Lex.j1 (k + 1) s out (i : Int) (bt s (i : Int)) (blank (bt s (i : Int))) = (aquiferref11_sign.f k s (i : Int)).bind fun t => (if t.toList = [] then (some (([] : List S49), 10, (i : Int))) else (aquiferref11_Lex.l0 k s (out ++ [(⟨4, t, (i : Int)⟩ : S49)]) (wrap64 ((i : Int) + (t.size : Int))))) := by
  have hbf : blank (bt s (i : Int)) = false := decide_eq_false hb
  intro k
  simp only [aquiferref11_Lex.j1]
  rw [hbf, if_neg Bool.false_ne_true, if_neg h35, letter_f, hsm, Option.bind_some, if_neg Bool.false_ne_true, digit_f, hdg, Option.bind_some, if_neg Bool.false_ne_true]
  refine congrArg _ (funext fun t => ?_)
  rw [if_pos hl4]
theorem both_sign (s : ByteArray) (hs : s.size ≤ 8192) (i : Nat) (out : List S49) (hlt : i < s.size) (hl4 : out.length < 4398046511104) (hb : ¬ (bt s (i : Int) = 32 ∨ bt s (i : Int) = 9 ∨ bt s (i : Int) = 10 ∨ bt s (i : Int) = 13)) (h35 : ¬ bt s (i : Int) = 35) (hns : ¬ lex_All.small (bt s (i : Int)) = true) (hsm : lex_All.small (bt s (i : Int)) = false) (hdg : lex_All.digit (bt s (i : Int)) = false) (ih : 1 ≤ (at2 s i).size → ∀ t, Both s (out ++ [t]) (i + (at2 s i).size)) : Both s out i := by
  have hsz := at2_size s i hlt
  have hlex := sign_lex s i out hlt hl4 hb h35 hns hdg
  have hj1 := sign_ref s i out hl4 hb h35 hsm hdg
  by_cases ht : (at2 s i).toList = []
  · refine ⟨(([] : List S49), 10, (i : Int)), Ev.step hlex (Ev.bind (lex_sign_ev s i hlt) ?_), ref_in s out i _ hlt (Ev.step hj1 (Ev.bind (ref_sign s i hs hlt) ?_)), Nat.zero_le _⟩
    · simp only [if_pos ht, if_pos hsz.1]
      exact Ev.now _
    · simp only [if_pos ht]
      exact Ev.now _
  · have h1 := hsz.2.resolve_left ht
    obtain ⟨r, h3, h4, hr⟩ := ih h1 ⟨4, at2 s i, (i : Int)⟩
    refine ⟨r, Ev.step hlex (Ev.bind (lex_sign_ev s i hlt) ?_), ref_in s out i r hlt (Ev.step hj1 (Ev.bind (ref_sign s i hs hlt) ?_)), hr⟩
    · simp only [if_neg ht, if_pos hsz.1]
      exact h3
    · simp only [if_neg ht]
      rw [w64 (by omega) (by omega), ← Int.natCast_add]
      exact h4
theorem both_end (s : ByteArray) (hs : s.size ≤ 8192) (i : Nat) (out : List S49) (hi : i = s.size) (hl : out.length ≤ i) : Both s out i := by
  refine ⟨(out ++ [(⟨0, (⟨#[]⟩ : ByteArray), (s.size : Int)⟩ : S49)], 0, 0), ?_, ?_, by rw [List.length_append, List.length_singleton]; omega⟩
  · refine Ev.step (fun k => ?_) (Ev.now _)
    simp only [lex_All.l0]
    rw [if_neg (by omega), if_pos (by omega)]
  · refine Ev.step (fun k => ?_) (Ev.now _)
    simp only [aquiferref11_Lex.l0]
    rw [if_neg (by omega), if_pos (by omega)]
theorem both (s : ByteArray) (hs : s.size ≤ 8192) : ∀ d i (out : List S49), s.size - i ≤ d → i ≤ s.size → out.length ≤ i → Both s out i := by
  intro d
  induction d with
  | zero =>
    intro i out hd hi hl
    exact both_end s hs i out (by omega) hl
  | succ d ih =>
    intro i out hd hi hl
    by_cases hlt : i < s.size
    case neg => exact both_end s hs i out (by omega) hl
    have hl4 : out.length < 4398046511104 := by omega
    by_cases hb : bt s (i : Int) = 32 ∨ bt s (i : Int) = 9 ∨ bt s (i : Int) = 10 ∨ bt s (i : Int) = 13
    · exact both_blank s hs i out hlt hb (ih (i + 1) out (by omega) (by omega) (by omega))
    by_cases h35 : bt s (i : Int) = 35
    · have hon := upto_on lex_All.nl s i hlt (by rw [h35]; rfl)
      have hle := upto_le lex_All.nl s i hi
      exact both_comment s hs i out hlt hb h35 (ih (lex_All.upto lex_All.nl s i) out (by omega) hle.2 (by omega))
    have hup : ∀ (e : Nat) (t : S49), i + 1 ≤ e → e ≤ s.size → Both s (out ++ [t]) e := fun e t h1 h2 => ih e _ (by omega) h2 (by rw [List.length_append, List.length_singleton]; omega)
    cases hsm : lex_All.small (bt s (i : Int)) with
    | true => exact both_word s hs i out hlt hl4 hb h35 hsm (fun t => hup _ t (upto_on lex_All.within s i hlt (by rw [within_eq, hsm]; rfl)) (upto_le lex_All.within s i hi).2)
    | false =>
      have hns : ¬ lex_All.small (bt s (i : Int)) = true := by rw [hsm]; decide
      cases hdg : lex_All.digit (bt s (i : Int)) with
      | true => exact both_num s hs i out hlt hl4 hb h35 hns hsm hdg (fun t => hup _ t (upto_on lex_All.digit s i hlt hdg) (upto_le lex_All.digit s i hi).2)
      | false => exact both_sign s hs i out hlt hl4 hb h35 hns hsm hdg (fun h t => hup _ t (by omega) (at2_size s i hlt).1)
theorem lex_both (s : ByteArray) (hbig : s.size ≤ 140737488351232) : ∃ r : Res, Ev (fun k => lex_Lex.f k s) r ∧ Ev (fun k => aquiferref11_Lex.f k s) r ∧ r.1.length ≤ 8193 := by
  by_cases h : s.size ≤ 8192
  · obtain ⟨r, h1, h2, hr⟩ := both s h s.size 0 [] (by omega) (by omega) (by simp)
    refine ⟨r, Ev.congr (f := fun k => (lex_All.f k s).bind fun (b : Res) => some (b.1, b.2.1, b.2.2)) (fun k => ?_) (Ev.bind (a := r) ?_ (Ev.now _)), Ev.congr (fun k => ?_) h2, hr⟩
    · unfold lex_Lex.f
      rw [if_neg (by omega)]
    · refine Ev.congr (fun k => ?_) h1
      unfold lex_All.f
      rw [if_pos hbig]
    · unfold aquiferref11_Lex.f
      rw [if_neg (by omega)]
      rfl
  · refine ⟨(([] : List S49), 9, 8192), Ev.congr (fun k => ?_) (Ev.now _), Ev.congr (fun k => ?_) (Ev.now _), Nat.zero_le _⟩
    · unfold lex_Lex.f
      rw [if_pos (by omega)]
    · unfold aquiferref11_Lex.f
      rw [if_pos (by omega)]
end LexP
namespace LexP
theorem same_l0 (l : List S49) (hl : l.length ≤ 10000) : ∀ d i, i + d = l.length → Ev (fun k => aquiferlaw11_same.l0 k l l (i : Int)) true := by
  intro d
  induction d with
  | zero =>
    intro i hd
    refine Ev.step (f := fun _ => some true) (fun k => ?_) (Ev.now _)
    simp only [aquiferlaw11_same.l0]
    rw [if_neg (by omega)]
  | succ d ih =>
    intro i hd
    refine Ev.step (fun k => ?_) (ih (i + 1) (by omega))
    simp only [aquiferlaw11_same.l0]
    rw [if_pos (by omega), if_pos (by omega), if_pos (by omega), if_neg (by simp), w64 (by omega) (by omega)]
    rfl
theorem same_ev (l : List S49) (hl : l.length ≤ 10000) : Ev (fun k => aquiferlaw11_same.f k l l) true := by
  refine Ev.congr (fun k => ?_) (same_l0 l hl l.length 0 (by omega))
  unfold aquiferlaw11_same.f
  rw [if_pos rfl]
  rfl
theorem awake_ev : Ev (fun k => aquiferlaw11_awake.f k) true := Ev.of aquiferlaw11_awake.mono (k := 60) (by decide +kernel)
end LexP
open LexP in
theorem LexReads : aquiferlaw11_LexReads.Pure := by
  intro a0 h
  have key : Ev (fun k => aquiferlaw11_LexReads.f k a0) true := by
    have ha : Ev (fun k => (aquiferlaw11_awake.f k).bind fun t => some t) true := Ev.bind (f := fun _ t => some t) awake_ev (Ev.now _)
    have j0 : ∀ x, Ev (fun k => aquiferlaw11_LexReads.j0 k a0 x) true := by
      intro x
      cases x with
      | true =>
        refine Ev.step (fun k => ?_) ha
        simp only [aquiferlaw11_LexReads.j0]
        rw [if_pos trivial]
      | false =>
        obtain ⟨r, h1, h2, hr⟩ := lex_both a0 h
        refine Ev.step (f := fun k => (lex_Lex.f k a0).bind fun b => (aquiferref11_Lex.f k a0).bind fun c => (aquiferlaw11_same.f k b.1 c.1).bind fun t => if t = true then (aquiferlaw1_Num.f b.2.1).bind fun u => if u = c.2.1 then (if b.2.2 = c.2.2 then (aquiferlaw11_awake.f k).bind fun t => some t else some false) else some false else some false) (fun k => ?_) (Ev.bind h1 (Ev.bind h2 (Ev.bind (same_ev r.1 (by omega)) ?_)))
        · simp only [aquiferlaw11_LexReads.j0]
          rw [if_neg Bool.false_ne_true]
        · refine Ev.congr (fun k => ?_) ha
          rw [if_pos rfl]
          show (if r.2.1 = r.2.1 then _ else _) = _
          rw [if_pos rfl, if_pos rfl]
    by_cases hs : (a0.size : Int) > 2000
    · refine Ev.congr (fun k => ?_) (j0 (decide ((a0.size : Int) ≤ 8192)))
      unfold aquiferlaw11_LexReads.f
      rw [if_pos hs]
    · refine Ev.congr (fun k => ?_) (j0 false)
      unfold aquiferlaw11_LexReads.f
      rw [if_neg hs]
  exact key.rounds
end Go.Proofs.Ytlleenoigcjemaa.Pure
