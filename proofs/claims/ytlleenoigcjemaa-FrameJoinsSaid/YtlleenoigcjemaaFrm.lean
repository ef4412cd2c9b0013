/- Records one behind the other, over plain lists: what stands at the beginning of any bytes; no program in it. -/
import Derived.Test.YtlleenoigcjemaaNum
import Derived.Test.YtlleenoigcjemaaCrc
namespace Go.Proofs.Ytlleenoigcjemaa.Frm
set_option linter.unusedVariables false
open Go.RowKit Go.Proofs.YtlleenoigcjemaaW.PrintWords Go.Proofs.Ytlleenoigcjemaa.Num
open Go.Proofs.Ytlleenoigcjemaa.Crc (crc crc_lt crc_turned le_set)
/-- The sum of bytes. -/
def sumI (l : List Int) : Int := ((crc 4294967295 (l.map Int.toNat) ^^^ 4294967295 : Nat) : Int)
theorem toNat_range {l : List Int} (h : ∀ x ∈ l, 0 ≤ x ∧ x < 256) : ∀ x ∈ l.map Int.toNat, x < 256 := by
  intro x hx
  obtain ⟨y, hy, rfl⟩ := List.mem_map.1 hx
  have := h y hy
  omega
theorem toNat_back {l : List Int} (h : ∀ x ∈ l, 0 ≤ x ∧ x < 256) : (l.map Int.toNat).map Int.ofNat = l := by
  rw [List.map_map]
  conv => rhs; rw [← List.map_id l]
  apply List.map_congr_left
  intro x hx
  have := h x hx
  simp only [Function.comp, id]
  show ((x.toNat : Nat) : Int) = x
  omega
theorem sumI_range {l : List Int} (h : ∀ x ∈ l, 0 ≤ x ∧ x < 256) : 0 ≤ sumI l ∧ sumI l < 4294967296 := by
  have := Nat.xor_lt_two_pow (crc_lt (c := 4294967295) (by decide) (toNat_range h)) (y := 4294967295) (by decide)
  unfold sumI
  omega
/-- A record. -/
def frm (p : List Int) : List Int := u32 (p.length : Int) ++ (u32 (sumI p) ++ p)
theorem frm_length (p : List Int) : (frm p).length = 8 + p.length := by
  unfold frm
  rw [List.length_append, List.length_append, u32_length, u32_length]; omega
theorem frm_range {p : List Int} (h : ∀ x ∈ p, 0 ≤ x ∧ x < 256) : ∀ x ∈ frm p, 0 ≤ x ∧ x < 256 := by
  intro x hx
  rcases List.mem_append.1 hx with hx | hx
  · exact u32_bytes _ x hx
  · rcases List.mem_append.1 hx with hx | hx
    · exact u32_bytes _ x hx
    · exact h x hx
/-- The record that bytes begin with. -/
def one (b : List Int) : Option (List Int) :=
  if b.length < 8 then none else
  if num b 0 > 1048576 ∨ num b 0 > (b.length : Int) - 8 then none else
  if sumI ((b.drop 8).take (num b 0).toNat) = num b 4 then some ((b.drop 8).take (num b 0).toNat) else none
theorem one_length {b p : List Int} (h : ∀ x ∈ b, 0 ≤ x ∧ x < 256) (ho : one b = some p) : 8 + p.length ≤ b.length ∧ num b 0 = (p.length : Int) ∧ p = (b.drop 8).take p.length := by
  have hr := num_range b h 0
  unfold one at ho
  split at ho
  · cases ho
  · split at ho
    · cases ho
    · split at ho
      · cases ho
        have hl : ((b.drop 8).take (num b 0).toNat).length = (num b 0).toNat := by rw [List.length_take, List.length_drop]; omega
        exact ⟨by omega, by omega, by rw [hl]⟩
      · cases ho
def scanN : Nat → List Int → List (List Int) × Nat
  | 0, _ => ([], 0)
  | f + 1, b => match one b with
    | none => ([], 0)
    | some p => (p :: (scanN f (b.drop (8 + p.length))).1, 8 + p.length + (scanN f (b.drop (8 + p.length))).2)
theorem scanN_more (f : Nat) : ∀ (g : Nat) (b : List Int), (∀ x ∈ b, 0 ≤ x ∧ x < 256) → b.length ≤ f → b.length ≤ g → scanN f b = scanN g b := by
  induction f with
  | zero =>
    intro g b hb hf hg
    cases g with
    | zero => rfl
    | succ g =>
      have : one b = none := by unfold one; rw [if_pos (by omega)]
      simp only [scanN, this]
  | succ f ih =>
    intro g b hb hf hg
    cases g with
    | zero =>
      have : one b = none := by unfold one; rw [if_pos (by omega)]
      simp only [scanN, this]
    | succ g =>
      cases ho : one b with
      | none => simp only [scanN, ho]
      | some p =>
        have := (one_length hb ho).1
        have h2 := ih g (b.drop (8 + p.length)) (fun x hx => hb x (List.mem_of_mem_drop hx)) (by rw [List.length_drop]; omega) (by rw [List.length_drop]; omega)
        simp only [scanN, ho, h2]
/-- The records that bytes begin with, and how many bytes they have. -/
def scan (b : List Int) : List (List Int) × Nat := scanN b.length b
theorem scan_none {b : List Int} (h : one b = none) : scan b = ([], 0) := by
  unfold scan
  cases b.length with
  | zero => rfl
  | succ n => simp only [scanN, h]
theorem scan_some {b p : List Int} (hb : ∀ x ∈ b, 0 ≤ x ∧ x < 256) (h : one b = some p) : scan b = (p :: (scan (b.drop (8 + p.length))).1, 8 + p.length + (scan (b.drop (8 + p.length))).2) := by
  have hl := (one_length hb h).1
  unfold scan
  cases hn : b.length with
  | zero => omega
  | succ n =>
    rw [scanN_more (b.drop (8 + p.length)).length n _ (fun x hx => hb x (List.mem_of_mem_drop hx)) (Nat.le_refl _) (by rw [List.length_drop]; omega)]
    simp only [scanN, h]
theorem one_frm {p z : List Int} (hp : ∀ x ∈ p, 0 ≤ x ∧ x < 256) (hl : p.length ≤ 1048576) : one (frm p ++ z) = some p := by
  have hs := sumI_range hp
  have h0 : num (frm p ++ z) 0 = (p.length : Int) := by
    rw [num_left _ _ 0 (by rw [frm_length]; omega)]
    unfold frm
    rw [num_left _ _ 0 (by rw [u32_length]; omega), num_u32 _ (by omega) (by omega)]
  have h4 : num (frm p ++ z) 4 = sumI p := by
    rw [num_left _ _ 4 (by rw [frm_length]; omega)]
    unfold frm
    have := num_append (u32 (p.length : Int)) (u32 (sumI p) ++ p) 0
    rw [u32_length] at this
    rw [this, num_left _ _ 0 (by rw [u32_length]; omega), num_u32 _ hs.1 hs.2]
  have hd : ((frm p ++ z).drop 8).take p.length = p := by
    have h8 : (u32 (p.length : Int) ++ u32 (sumI p)).length = 8 := by rw [List.length_append, u32_length, u32_length]
    unfold frm
    rw [← List.append_assoc, List.append_assoc _ p z, List.drop_left' h8, List.take_left' rfl]
  unfold one
  have hlen : (frm p ++ z).length = 8 + p.length + z.length := by rw [List.length_append, frm_length]
  rw [if_neg (by omega), h0, if_neg (by omega), h4, Int.toNat_natCast, hd, if_pos rfl]
theorem scan_frm {p z : List Int} (hp : ∀ x ∈ p, 0 ≤ x ∧ x < 256) (hz : ∀ x ∈ z, 0 ≤ x ∧ x < 256) (hl : p.length ≤ 1048576) : scan (frm p ++ z) = (p :: (scan z).1, 8 + p.length + (scan z).2) := by
  have hr : ∀ x ∈ frm p ++ z, 0 ≤ x ∧ x < 256 := fun x hx => (List.mem_append.1 hx).elim (frm_range hp x) (hz x)
  rw [scan_some hr (one_frm hp hl), List.drop_left' (frm_length p)]
def frms : List (List Int) → List Int
  | [] => []
  | p :: l => frm p ++ frms l
theorem frms_range {l : List (List Int)} (h : ∀ p ∈ l, ∀ x ∈ p, 0 ≤ x ∧ x < 256) : ∀ x ∈ frms l, 0 ≤ x ∧ x < 256 := by
  induction l with
  | nil => intro x hx; cases hx
  | cons p l ih =>
    intro x hx
    rcases List.mem_append.1 hx with hx | hx
    · exact frm_range (h p (by simp)) x hx
    · exact ih (fun q hq => h q (List.mem_cons_of_mem _ hq)) x hx
theorem frms_append (a b : List (List Int)) : frms (a ++ b) = frms a ++ frms b := by
  induction a with
  | nil => rfl
  | cons p a ih => simp only [List.cons_append, frms, ih, List.append_assoc]
theorem scan_frms {l : List (List Int)} {z : List Int} (h : ∀ p ∈ l, ∀ x ∈ p, 0 ≤ x ∧ x < 256) (hz : ∀ x ∈ z, 0 ≤ x ∧ x < 256) (hl : ∀ p ∈ l, p.length ≤ 1048576) :
    scan (frms l ++ z) = (l ++ (scan z).1, (frms l).length + (scan z).2) := by
  induction l with
  | nil => simp [frms]
  | cons p l ih =>
    have ih' := ih (fun q hq => h q (List.mem_cons_of_mem _ hq)) (fun q hq => hl q (List.mem_cons_of_mem _ hq))
    have hr : ∀ x ∈ frms l ++ z, 0 ≤ x ∧ x < 256 := fun x hx => (List.mem_append.1 hx).elim (frms_range (fun q hq => h q (List.mem_cons_of_mem _ hq)) x) (hz x)
    simp only [frms]
    rw [List.append_assoc, scan_frm (h p (by simp)) hr (hl p (by simp)), ih', List.length_append, frm_length]
    simp only [List.cons_append, Nat.add_assoc]
theorem scan_le {b : List Int} (hb : ∀ x ∈ b, 0 ≤ x ∧ x < 256) : (scan b).2 ≤ b.length := by
  generalize hn : b.length = n
  induction n using Nat.strongRecOn generalizing b with
  | _ n ih =>
    cases ho : one b with
    | none => rw [scan_none ho]; exact Nat.zero_le _
    | some p =>
      have hl := (one_length hb ho).1
      rw [scan_some hb ho]
      have := ih (b.length - (8 + p.length)) (by omega) (b := b.drop (8 + p.length)) (fun x hx => hb x (List.mem_of_mem_drop hx)) (by rw [List.length_drop])
      show 8 + p.length + _ ≤ _
      omega
/-- A record that is cut anywhere tells nothing. -/
theorem one_cut {p : List Int} (hl : p.length ≤ 1048576) (m : Nat) (hm : m < 8 + p.length) (z : List Int) : one ((frm p ++ z).take m) = none := by
  have hlen : ((frm p ++ z).take m).length = m := by rw [List.length_take, List.length_append, frm_length]; omega
  unfold one
  by_cases h8 : m < 8
  · rw [if_pos (by omega)]
  · rw [if_neg (by omega)]
    have h0 : num ((frm p ++ z).take m) 0 = (p.length : Int) := by
      have h1 : num ((frm p ++ z).take m ++ (frm p ++ z).drop m) 0 = num ((frm p ++ z).take m) 0 := num_left _ _ 0 (by omega)
      rw [List.take_append_drop] at h1
      rw [← h1, num_left _ _ 0 (by rw [frm_length]; omega)]
      unfold frm
      rw [num_left _ _ 0 (by rw [u32_length]; omega), num_u32 _ (by omega) (by omega)]
    rw [if_pos (by rw [h0, hlen]; omega)]
theorem xor_ne {b x : Nat} (h : x ≠ 0) : b ^^^ x ≠ b := by
  intro e
  have := congrArg (fun y => b ^^^ y) e
  simp only [← Nat.xor_assoc, Nat.xor_self, Nat.zero_xor] at this
  exact h this
/-- Four bytes of which one is another: another number. -/
theorem num_set (b : List Int) (hl : b.length = 4) (j : Nat) (hj : j < 4) (v : Int) (hv : v ≠ b.getD j 0) (hv0 : 0 ≤ v) (hv1 : v < 256) (hb : ∀ x ∈ b, 0 ≤ x ∧ x < 256) : num (b.set j v) 0 ≠ num b 0 := by
  match b, hl with
  | [b0, b1, b2, b3], _ =>
    have h0 := hb b0 (by simp)
    have h1 := hb b1 (by simp)
    have h2 := hb b2 (by simp)
    have h3 := hb b3 (by simp)
    rcases (by omega : j = 0 ∨ j = 1 ∨ j = 2 ∨ j = 3) with rfl | rfl | rfl | rfl <;> simp [num] at hv ⊢ <;> omega
theorem sumI_set {q : List Int} (hq : ∀ x ∈ q, 0 ≤ x ∧ x < 256) (j : Nat) (hj : j < q.length) (x : Nat) (hx0 : x ≠ 0) (hx : x < 256) : sumI (q.set j ((((q.getD j 0).toNat ^^^ x : Nat) : Int))) ≠ sumI q := by
  have hm : (q.set j ((((q.getD j 0).toNat ^^^ x : Nat) : Int))).map Int.toNat = (q.map Int.toNat).set j ((q.map Int.toNat)[j]'(by rw [List.length_map]; exact hj) ^^^ x) := by
    rw [List.map_set]
    congr 1
    rw [List.getElem_map, List.getD_eq_getElem?_getD, List.getElem?_eq_getElem hj]
    rfl
  have hlen : j < (q.map Int.toNat).length := by rw [List.length_map]; exact hj
  have ht := crc_turned 4294967295 (q.map Int.toNat) ((q.map Int.toNat).set j ((q.map Int.toNat)[j] ^^^ x)) (by rw [List.length_set]) x (8 * j) (by omega) hx0 (by omega) (le_set _ j hlen x)
  intro e
  unfold sumI at e
  rw [hm] at e
  have e2 : crc 4294967295 ((q.map Int.toNat).set j ((q.map Int.toNat)[j] ^^^ x)) ^^^ 4294967295 = crc 4294967295 (q.map Int.toNat) ^^^ 4294967295 := by omega
  have e3 := congrArg (fun y => y ^^^ 4294967295) e2
  simp only [Nat.xor_assoc, Nat.xor_self, Nat.xor_zero] at e3
  exact ht e3.symm
/-- A record of which one byte behind its length is turned. -/
theorem one_turned {q : List Int} (hq : ∀ x ∈ q, 0 ≤ x ∧ x < 256) (hl : q.length ≤ 1048576) (t : Nat) (h4 : 4 ≤ t) (ht : t < 8 + q.length) (x : Nat) (hx0 : x ≠ 0) (hx : x < 256) :
    one ((frm q).set t (((((frm q).getD t 0).toNat ^^^ x : Nat) : Int))) = none := by
  have hs := sumI_range hq
  have hlen : ((frm q).set t (((((frm q).getD t 0).toNat ^^^ x : Nat) : Int))).length = 8 + q.length := by rw [List.length_set, frm_length]
  obtain ⟨v, hv⟩ : ∃ v : Int, v = (((((frm q).getD t 0).toNat ^^^ x : Nat) : Int)) := ⟨_, rfl⟩
  rw [← hv] at hlen ⊢
  have hfr : (frm q).set t v = u32 (q.length : Int) ++ (u32 (sumI q) ++ q).set (t - 4) v := by
    unfold frm
    rw [List.set_append, if_neg (by rw [u32_length]; omega), u32_length]
  have hgd : (frm q).getD t 0 = (u32 (sumI q) ++ q).getD (t - 4) 0 := by
    unfold frm
    rw [List.getD_eq_getElem?_getD, List.getElem?_append_right (by rw [u32_length]; omega), u32_length, ← List.getD_eq_getElem?_getD]
  have h0 : num ((frm q).set t v) 0 = (q.length : Int) := by
    rw [hfr, num_left _ _ 0 (by rw [u32_length]; omega), num_u32 _ (by omega) (by omega)]
  have n4 : num ((frm q).set t v) 4 = num ((u32 (sumI q) ++ q).set (t - 4) v) 0 := by
    rw [hfr]
    exact num_append (u32 (q.length : Int)) _ 0
  have hd : ∀ s p : List Int, s.length = 4 → p.length = q.length → (u32 (sumI q) ++ q).set (t - 4) v = s ++ p → (((frm q).set t v).drop 8).take q.length = p := by
    intro s p h1 h2 he
    rw [hfr, he, ← List.append_assoc, List.drop_left' (by rw [List.length_append, u32_length, h1]), ← h2, List.take_length]
  have hur : ∀ y ∈ u32 (sumI q), 0 ≤ y ∧ y < 256 := u32_bytes _
  unfold one
  rw [if_neg (by omega), h0, if_neg (by omega), n4, Int.toNat_natCast]
  by_cases h8 : t < 8
  · have he : (u32 (sumI q) ++ q).set (t - 4) v = (u32 (sumI q)).set (t - 4) v ++ q := by rw [List.set_append, if_pos (by rw [u32_length]; omega)]
    have hg2 : (u32 (sumI q) ++ q).getD (t - 4) 0 = (u32 (sumI q)).getD (t - 4) 0 := by
      rw [List.getD_eq_getElem?_getD, List.getElem?_append_left (by rw [u32_length]; omega), ← List.getD_eq_getElem?_getD]
    have hgr := byte_getD (u32 (sumI q)) hur (t - 4)
    rw [hgd, hg2] at hv
    have hxl := Nat.xor_lt_two_pow (n := 8) (x := ((u32 (sumI q)).getD (t - 4) 0).toNat) (by omega) (y := x) (by omega)
    have hne := num_set (u32 (sumI q)) (u32_length _) (t - 4) (by omega) v (by rw [hv]; intro e; exact xor_ne (b := ((u32 (sumI q)).getD (t - 4) 0).toNat) hx0 (by omega)) (by omega) (by omega) hur
    rw [hd _ _ (by rw [List.length_set, u32_length]) rfl he, he, num_left _ _ 0 (by rw [List.length_set, u32_length]; omega), if_neg]
    intro e
    rw [← e, num_u32 _ hs.1 hs.2] at hne
    exact hne rfl
  · have he : (u32 (sumI q) ++ q).set (t - 4) v = u32 (sumI q) ++ q.set (t - 8) v := by rw [List.set_append, if_neg (by rw [u32_length]; omega), u32_length, show t - 4 - 4 = t - 8 by omega]
    have hg2 : (u32 (sumI q) ++ q).getD (t - 4) 0 = q.getD (t - 8) 0 := by
      rw [List.getD_eq_getElem?_getD, List.getElem?_append_right (by rw [u32_length]; omega), u32_length, ← List.getD_eq_getElem?_getD, show t - 4 - 4 = t - 8 by omega]
    rw [hgd, hg2] at hv
    rw [hd _ _ (u32_length _) (by rw [List.length_set]) he, he, num_left _ _ 0 (by rw [u32_length]; omega), num_u32 _ hs.1 hs.2, if_neg]
    rw [hv]
    exact sumI_set hq (t - 8) (by omega) x hx0 hx
/-- How much a list of byte rows has. -/
def ltot : List (List Int) → Nat
  | [] => 0
  | p :: l => 1 + p.length + ltot l
theorem len_le_ltot (l : List (List Int)) : l.length ≤ ltot l := by
  induction l with
  | nil => simp [ltot]
  | cons p l ih => rw [ltot, List.length_cons]; omega
theorem part_le_ltot (l : List (List Int)) : ∀ p ∈ l, p.length ≤ ltot l := by
  induction l with
  | nil => intro p h; cases h
  | cons q l ih =>
    intro p h
    rw [ltot]
    rcases List.mem_cons.1 h with rfl | h
    · omega
    · have := ih p h; omega
theorem frms_le (l : List (List Int)) : (frms l).length ≤ 8 * ltot l := by
  induction l with
  | nil => simp [frms]
  | cons p l ih => rw [frms, List.length_append, frm_length, ltot]; omega
/-- How far the first n records go. -/
def upto (l : List (List Int)) (n : Nat) : Nat := (frms (l.take n)).length
theorem upto_succ (l : List (List Int)) (n : Nat) (p : List Int) (h : l[n]? = some p) : upto l (n + 1) = upto l n + (8 + p.length) := by
  unfold upto
  rw [List.take_add_one, h, frms_append]
  simp [frms, frm_length]
/-- Cut anywhere: those that are whole are told. -/
theorem scan_cut {l : List (List Int)} (h : ∀ p ∈ l, ∀ x ∈ p, 0 ≤ x ∧ x < 256) (hl : ∀ p ∈ l, p.length ≤ 1048576) (m n : Nat) (hn : n ≤ l.length) (h1 : upto l n ≤ m) (h2 : ∀ p, l[n]? = some p → m < upto l n + (8 + p.length)) :
    (scan ((frms l).take m)) = (l.take n, upto l n) := by
  have e : frms l = frms (l.take n) ++ frms (l.drop n) := by rw [← frms_append, List.take_append_drop]
  have ht : (frms l).take m = frms (l.take n) ++ (frms (l.drop n)).take (m - upto l n) := by
    rw [e, List.take_append]
    congr 1
    exact List.take_of_length_le h1
  have hz : ∀ x ∈ (frms (l.drop n)).take (m - upto l n), 0 ≤ x ∧ x < 256 := fun x hx => frms_range (l := l.drop n) (fun p hp => h p (List.mem_of_mem_drop hp)) x (List.mem_of_mem_take hx)
  have ho : one ((frms (l.drop n)).take (m - upto l n)) = none := by
    cases hd : l.drop n with
    | nil => rw [frms, List.take_nil]; rfl
    | cons p rest =>
      obtain ⟨hlt, hp, _⟩ := Crc.drop_cons hd
      have := h2 p hp
      exact one_cut (hl p (List.mem_of_getElem? hp)) _ (by omega) _
  rw [ht, scan_frms (fun p hp => h p (List.mem_of_mem_take hp)) hz (fun p hp => hl p (List.mem_of_mem_take hp)), scan_none ho]
  simp [upto]
theorem w_frame (g n : Nat) (h : g + 8 + n ≤ 5864062014804) : wrap64 ((g : Int) + wrap64 (8 + (n : Int))) = ((g + 8 + n : Nat) : Int) := by
  have a1 : wrap64 (8 + (n : Int)) = 8 + (n : Int) := wrap64_small (by omega) (by omega)
  have a3 : wrap64 ((g:Int) + (8 + (n:Int))) = (g:Int) + (8 + (n:Int)) := wrap64_small (by omega) (by omega)
  have a2 : (g : Int) + (8 + (n : Int)) = ((g + 8 + n : Nat) : Int) := by omega
  rw [a1]
  rw [a3]
  exact a2
theorem w_on (g n : Nat) (h : g + n ≤ 5864062014804) : wrap64 ((g : Int) + (n : Int)) = ((g + n : Nat) : Int) := wrap64_small (by omega) (by omega)
theorem w_room (l g : Nat) (h : g ≤ l) (hl : l ≤ 5864062014804) : wrap64 (wrap64 ((l : Int) - (g : Int)) - 8) = (l : Int) - g - 8 := by
  rw [wrap64_small (n := (l : Int) - (g : Int)) (by omega) (by omega), wrap64_small (by omega) (by omega)]
theorem steps_on {g n l b d : Nat} (hd : b - g = d) (hn2 : g + 8 + n ≤ b) (hl : l ≤ g) : l + 1 ≤ g + 8 + n ∧ b - (g + 8 + n) < d := by omega
theorem no8 {b g : Nat} (h8 : ¬ b < g + 8) : ¬ b - g < 8 := by omega
theorem sum_on (g n m : Nat) : g + (8 + n + m) = g + 8 + n + m := by omega
end Go.Proofs.Ytlleenoigcjemaa.Frm
