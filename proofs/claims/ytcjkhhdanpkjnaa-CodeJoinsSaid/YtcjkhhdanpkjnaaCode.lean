/- Lists of texts as bytes and back: what the bytes are, what is read of any bytes; plain lists, no program in it. -/
import Derived.Test.YtcjkhhdanpkjnaaNum
import Derived.Lib.Bytealg
namespace Go.Proofs.Ytcjkhhdanpkjnaa.Code
open Go.RowKit Go.Proofs.YtcjkhhdanpkjnaaW.PrintWords Go.Proofs.Ytcjkhhdanpkjnaa.Num
theorem toList_inj {s t : ByteArray} (h : s.toList = t.toList) : s = t := by
  rw [Lib.toList_data, Lib.toList_data] at h
  exact ByteArray.ext (Array.toList_inj.1 h)
theorem toList_iff {s t : ByteArray} : s.toList = t.toList ↔ s = t := ⟨toList_inj, fun h => by rw [h]⟩
theorem bytesOf_range (s : ByteArray) : ∀ x ∈ bytesOf s, 0 ≤ x ∧ x < 256 := by
  intro x hx
  obtain ⟨b, _, rfl⟩ := List.mem_map.1 hx
  have := b.toNat_lt
  omega
theorem strOf_bytesOf (s : ByteArray) : strOfNums (bytesOf s) = s := by
  apply ByteArray.ext
  apply Array.toList_inj.1
  rw [strOfNums_data, bytesOf, List.map_map]
  have : ((fun n : Int => UInt8.ofNat n.toNat) ∘ fun b : UInt8 => (b.toNat : Int)) = id := by
    funext b; simp
  rw [this, List.map_id]
theorem bytesOf_strOf (l : List Int) (h : ∀ x ∈ l, 0 ≤ x ∧ x < 256) : bytesOf (strOfNums l) = l := by
  rw [bytesOf, strOfNums_data, List.map_map]
  conv => rhs; rw [← List.map_id l]
  refine List.map_congr_left fun x hx => ?_
  have := h x hx
  simp
  omega
theorem strOf_inj {a b : List Int} (ha : ∀ x ∈ a, 0 ≤ x ∧ x < 256) (hb : ∀ x ∈ b, 0 ≤ x ∧ x < 256) : strOfNums a = strOfNums b ↔ a = b :=
  ⟨fun h => by rw [← bytesOf_strOf a ha, h, bytesOf_strOf b hb], fun h => by rw [h]⟩
def item (s : ByteArray) : List Int := u32 (s.size : Int) ++ bytesOf s
def items : List ByteArray → List Int
  | [] => []
  | s :: l => item s ++ items l
def enc (l : List ByteArray) : List Int := u32 (l.length : Int) ++ items l
/-- How great a list of texts is. -/
def tot : List ByteArray → Nat
  | [] => 0
  | s :: l => 1 + s.size + tot l
theorem item_length (s : ByteArray) : (item s).length = 4 + s.size := by rw [item, List.length_append, u32_length, bytesOf_length]
theorem items_le (l : List ByteArray) : (items l).length ≤ 4 * tot l := by
  induction l with
  | nil => simp [items]
  | cons s l ih => rw [items, List.length_append, item_length, tot]; omega
theorem len_le_tot (l : List ByteArray) : l.length ≤ tot l := by
  induction l with
  | nil => simp
  | cons s l ih => rw [List.length_cons, tot]; omega
theorem size_le_tot (l : List ByteArray) : ∀ s ∈ l, s.size ≤ tot l := by
  induction l with
  | nil => simp
  | cons t l ih =>
    intro s hs
    rw [tot]
    rcases List.mem_cons.1 hs with rfl | h
    · omega
    · have := ih s h; omega
theorem items_append (a b : List ByteArray) : items (a ++ b) = items a ++ items b := by
  induction a with
  | nil => rfl
  | cons s a ih => rw [List.cons_append, items, items, ih, List.append_assoc]
theorem tot_append (a b : List ByteArray) : tot (a ++ b) = tot a + tot b := by
  induction a with
  | nil => simp [tot]
  | cons s a ih => rw [List.cons_append, tot, tot, ih]; omega
theorem item_range (s : ByteArray) : ∀ x ∈ item s, 0 ≤ x ∧ x < 256 := fun x hx => (List.mem_append.1 hx).elim (u32_bytes _ x) (bytesOf_range s x)
theorem items_range (l : List ByteArray) : ∀ x ∈ items l, 0 ≤ x ∧ x < 256 := by
  induction l with
  | nil => simp [items]
  | cons s l ih => exact fun x hx => (List.mem_append.1 hx).elim (item_range s x) (ih x)
theorem enc_range (l : List ByteArray) : ∀ x ∈ enc l, 0 ≤ x ∧ x < 256 := fun x hx => (List.mem_append.1 hx).elim (u32_bytes _ x) (items_range l x)
theorem enc_length (l : List ByteArray) : (enc l).length = 4 + (items l).length := by rw [enc, List.length_append, u32_length]
/-- What so many texts are read as, and nothing behind. -/
def dec : Nat → List Int → Option (List ByteArray)
  | 0, r => if r.length = 0 then some [] else none
  | n + 1, r => if r.length < 4 then none else if num r 0 > (r.length : Int) - 4 then none else (dec n (r.drop (4 + (num r 0).toNat))).map fun l => strOfNums ((r.drop 4).take (num r 0).toNat) :: l
/-- What was read before, and what is read of the rest. -/
def got (out : List ByteArray) : Option (List ByteArray) → List ByteArray × Int
  | some l => (out ++ l, 0)
  | none => ([], 2)
theorem got_map (out : List ByteArray) (s : ByteArray) (x : Option (List ByteArray)) : got out (x.map fun l => s :: l) = got (out ++ [s]) x := by
  cases x <;> simp [got]
/-- What any bytes are read as. -/
def Dec (b : List Int) : List ByteArray × Int := if b.length < 4 then ([], 2) else got [] (dec (num b 0).toNat (b.drop 4))
theorem range_drop {b : List Int} (h : ∀ x ∈ b, 0 ≤ x ∧ x < 256) (n : Nat) : ∀ x ∈ b.drop n, 0 ≤ x ∧ x < 256 := fun x hx => h x (List.mem_of_mem_drop hx)
theorem range_take {b : List Int} (h : ∀ x ∈ b, 0 ≤ x ∧ x < 256) (n : Nat) : ∀ x ∈ b.take n, 0 ≤ x ∧ x < 256 := fun x hx => h x (List.mem_of_mem_take hx)
theorem num_drop (b : List Int) (i j : Nat) : num (b.drop i) j = num b (i + j) := by
  have h : ∀ k, (b.drop i).getD k 0 = b.getD (i + k) 0 := fun k => by
    rw [List.getD_eq_getElem?_getD, List.getElem?_drop, ← List.getD_eq_getElem?_getD]
  unfold num
  rw [h, h, h, h, Nat.add_assoc i j 1, Nat.add_assoc i j 2, Nat.add_assoc i j 3]
theorem dec_short (n : Nat) : ∀ r : List Int, (∀ x ∈ r, 0 ≤ x ∧ x < 256) → r.length < 4 * n → dec n r = none := by
  induction n with
  | zero => intro r _ h; omega
  | succ n ih =>
    intro r hr h
    rw [dec]
    by_cases h4 : r.length < 4
    · rw [if_pos h4]
    · rw [if_neg h4]
      by_cases hk : num r 0 > (r.length : Int) - 4
      · rw [if_pos hk]
      · rw [if_neg hk, ih _ (range_drop hr _) (by rw [List.length_drop]; omega)]
        rfl
/-- What was told is read back; with more behind, or with less, nothing is. -/
theorem dec_items (z : List Int) (l : List ByteArray) : (∀ s ∈ l, s.size < 4294967296) → dec l.length (items l ++ z) = if z.length = 0 then some l else none := by
  induction l with
  | nil => intro _; simp [items, dec]
  | cons s l ih =>
    intro hs
    have h1 := hs s (by simp)
    have hn : num (items (s :: l) ++ z) 0 = (s.size : Int) := by
      rw [items, item, List.append_assoc, List.append_assoc, num_left _ _ 0 (by rw [u32_length]; omega), num_u32 _ (by omega) (by omega)]
    have hl : (items (s :: l) ++ z).length = 4 + s.size + (items l ++ z).length := by
      rw [items, List.append_assoc, List.length_append, item_length]
    have hd : (items (s :: l) ++ z).drop (4 + s.size) = items l ++ z := by
      rw [items, List.append_assoc, ← item_length s, List.drop_left]
    have ht : ((items (s :: l) ++ z).drop 4).take s.size = bytesOf s := by
      rw [items, item, List.append_assoc, List.append_assoc, ← u32_length (s.size : Int), List.drop_left, ← bytesOf_length s, List.take_left]
    rw [List.length_cons, dec, if_neg (by omega), hn, if_neg (by rw [hl]; omega), Int.toNat_natCast, hd, ht, ih (fun t h => hs t (List.mem_cons_of_mem _ h)), strOf_bytesOf]
    split <;> rfl
theorem dec_cut (l : List ByteArray) : ∀ m, (∀ s ∈ l, s.size < 4294967296) → m < (items l).length → dec l.length ((items l).take m) = none := by
  induction l with
  | nil => intro m _ h; simp [items] at h
  | cons s l ih =>
    intro m hs hm
    have h1 := hs s (by simp)
    have hl : (items (s :: l)).length = 4 + s.size + (items l).length := by rw [items, List.length_append, item_length]
    have htl : ((items (s :: l)).take m).length = m := by rw [List.length_take]; omega
    rw [List.length_cons, dec]
    by_cases h4 : m < 4
    · rw [if_pos (by omega)]
    · rw [if_neg (by omega)]
      have hn : num ((items (s :: l)).take m) 0 = (s.size : Int) := by
        have e : (items (s :: l)).take m = u32 (s.size : Int) ++ (bytesOf s ++ items l).take (m - 4) := by
          rw [items, item, List.append_assoc, List.take_append, u32_length, List.take_of_length_le (by rw [u32_length]; omega)]
        rw [e, num_left _ _ 0 (by rw [u32_length]; omega), num_u32 _ (by omega) (by omega)]
      rw [hn]
      by_cases hk : (s.size : Int) > (((items (s :: l)).take m).length : Int) - 4
      · rw [if_pos hk]
      · rw [if_neg hk, Int.toNat_natCast]
        have hd : ((items (s :: l)).take m).drop (4 + s.size) = (items l).take (m - (4 + s.size)) := by rw [List.drop_take, items, ← item_length s, List.drop_left]
        rw [hd, ih _ (fun t h => hs t (List.mem_cons_of_mem _ h)) (by omega)]
        rfl
theorem Dec_enc (z : List Int) (l : List ByteArray) (hl : l.length < 4294967296) (hs : ∀ s ∈ l, s.size < 4294967296) : Dec (enc l ++ z) = if z.length = 0 then (l, 0) else ([], 2) := by
  have hn : num (enc l ++ z) 0 = (l.length : Int) := by
    rw [enc, List.append_assoc, num_left _ _ 0 (by rw [u32_length]; omega), num_u32 _ (by omega) (by omega)]
  have hd : (enc l ++ z).drop 4 = items l ++ z := by rw [enc, List.append_assoc, ← u32_length (l.length : Int), List.drop_left]
  unfold Dec
  rw [if_neg (by rw [List.length_append, enc_length]; omega), hn, Int.toNat_natCast, hd, dec_items z l hs]
  by_cases hz : z.length = 0 <;> simp [hz, got]
theorem Dec_cut (l : List ByteArray) (hl : l.length < 4294967296) (hs : ∀ s ∈ l, s.size < 4294967296) (m : Nat) (hm : m < (enc l).length) : Dec ((enc l).take m) = ([], 2) := by
  unfold Dec
  have htl : ((enc l).take m).length = m := by rw [List.length_take]; omega
  by_cases h4 : m < 4
  · rw [if_pos (by omega)]
  · have e : (enc l).take m = u32 (l.length : Int) ++ (items l).take (m - 4) := by
      rw [enc, List.take_append, u32_length, List.take_of_length_le (by rw [u32_length]; omega)]
    rw [if_neg (by omega), e, num_left _ _ 0 (by rw [u32_length]; omega), num_u32 _ (by omega) (by omega), Int.toNat_natCast, ← u32_length (l.length : Int), List.drop_left]
    rw [dec_cut l _ hs (by rw [enc_length] at hm; rw [u32_length]; omega)]
    rfl
theorem items_prefix : ∀ (a b : List ByteArray) (t : List Int), a.length = b.length → (∀ s ∈ a, s.size < 4294967296) → (∀ s ∈ b, s.size < 4294967296) → items a ++ t = items b → a = b
  | [], [], _, _, _, _, _ => rfl
  | [], _ :: _, _, h, _, _, _ => by simp at h
  | _ :: _, [], _, h, _, _, _ => by simp at h
  | s :: a, u :: b, t, h, ha, hb, he => by
    have h1 := ha s (by simp)
    have h2 := hb u (by simp)
    simp only [items, item, List.append_assoc] at he
    obtain ⟨e1, e2⟩ := List.append_inj he (by rw [u32_length, u32_length])
    have hz : (s.size : Int) = u.size := by rw [← num_u32 (s.size : Int) (by omega) (by omega), e1, num_u32 _ (by omega) (by omega)]
    obtain ⟨e3, e4⟩ := List.append_inj e2 (by rw [bytesOf_length, bytesOf_length]; omega)
    have hsu : s = u := by rw [← strOf_bytesOf s, e3, strOf_bytesOf]
    rw [hsu, items_prefix a b t (by simpa using h) (fun x hx => ha x (List.mem_cons_of_mem _ hx)) (fun x hx => hb x (List.mem_cons_of_mem _ hx)) e4]
theorem enc_prefix (a b : List ByteArray) (t : List Int) (la : a.length < 4294967296) (lb : b.length < 4294967296) (ha : ∀ s ∈ a, s.size < 4294967296) (hb : ∀ s ∈ b, s.size < 4294967296) (he : enc a ++ t = enc b) : a = b := by
  simp only [enc, List.append_assoc] at he
  obtain ⟨e1, e2⟩ := List.append_inj he (by rw [u32_length, u32_length])
  have hz : (a.length : Int) = b.length := by rw [← num_u32 (a.length : Int) (by omega) (by omega), e1, num_u32 _ (by omega) (by omega)]
  exact items_prefix a b t (by omega) ha hb e2
end Go.Proofs.Ytcjkhhdanpkjnaa.Code
