/- The statement CodeAll over numbers and lists: numbers as bytes, and lists of texts, both ways, are the reference's, for at most 5000 bytes and texts of at most 5000 together. No further condition. -/
import Derived.Test.YtedoechheeclgaaQCodeAllx3
import Derived.Test.YtedoechheeclgaaCode
namespace Go.Proofs.Ytedoechheeclgaa.Pure
open Go.RowKit Go.Proofs.Ytedoechheeclgaa.QCodeAll Go.Proofs.Ytedoechheeclgaa.Num Go.Proofs.Ytedoechheeclgaa.Code Go.Proofs.YtedoechheeclgaaW.PrintWords Go.Proofs.YtedoechheeclgaaW.PrintLast Go.Proofs.YtedoechheeclgaaW.PrintMore
namespace CodeAllP
theorem U32_f (n : Int) : code_U32.f n = some (u32 n) := rfl
theorem Get_yes (l : List Int) (h : ∀ x ∈ l, 0 ≤ x ∧ x < 256) (hn : l.length ≤ 1407374883551232) (i : Nat) (hi : i + 4 ≤ l.length) : code_Get.f l (i : Int) = some (num l i, true) := by
  have h0 := byte_getD l h i
  have h1 := byte_getD l h (i + 1)
  have h2 := byte_getD l h (i + 2)
  have h3 := byte_getD l h (i + 3)
  have e1 : wrap64 ((i : Int) + 1) = ((i + 1 : Nat) : Int) := by unfold wrap64; omega
  have e2 : wrap64 ((i : Int) + 2) = ((i + 2 : Nat) : Int) := by unfold wrap64; omega
  have e3 : wrap64 ((i : Int) + 3) = ((i + 3 : Nat) : Int) := by unfold wrap64; omega
  have e4 : wrap64 ((l.length : Int) - 4) = (l.length : Int) - 4 := by unfold wrap64; omega
  have r : ∀ j : Nat, rd l (j : Int) = l.getD j 0 := fun j => by simp [rd]
  unfold code_Get.f
  rw [e1, e2, e3, e4, if_neg (by omega), if_neg (by omega), if_neg (by omega), if_pos (by omega), if_pos (by omega), if_pos (by omega), if_pos (by omega), if_pos (by omega), if_pos (by omega), if_pos (by omega), if_pos (by omega), r, r, r, r]
  rw [or4 _ _ _ _ h0.1 h0.2 h1.1 h1.2 h2.1 h2.2 h3.1 h3.2]
  rfl
theorem Get_no (l : List Int) (hn : l.length ≤ 1407374883551232) (i : Int) (hi : i < 0 ∨ (l.length : Int) < i + 4) : code_Get.f l i = some (0, false) := by
  unfold code_Get.f
  have e4 : wrap64 ((l.length : Int) - 4) = (l.length : Int) - 4 := by unfold wrap64; omega
  rw [e4]
  by_cases h1 : i < 0
  · rw [if_pos h1]
  · rw [if_neg h1]
    by_cases h2 : (l.length : Int) < 4
    · rw [if_pos h2]
    · rw [if_neg h2, if_pos (by omega)]
theorem RU32_f (n : Int) : aquiferref1_U32.f n = some (u32 n) := rfl
theorem RGet_yes (l : List Int) (h : ∀ x ∈ l, 0 ≤ x ∧ x < 256) (hn : l.length ≤ 1407374883551232) (i : Nat) (hi : i + 4 ≤ l.length) : aquiferref1_Get.f l (i : Int) = some (num l i, true) := by
  have h0 := byte_getD l h i
  have h1 := byte_getD l h (i + 1)
  have h2 := byte_getD l h (i + 2)
  have h3 := byte_getD l h (i + 3)
  have e1 : wrap64 ((i : Int) + 1) = ((i + 1 : Nat) : Int) := by unfold wrap64; omega
  have e2 : wrap64 ((i : Int) + 2) = ((i + 2 : Nat) : Int) := by unfold wrap64; omega
  have e3 : wrap64 ((i : Int) + 3) = ((i + 3 : Nat) : Int) := by unfold wrap64; omega
  have e4 : wrap64 ((l.length : Int) - 4) = (l.length : Int) - 4 := by unfold wrap64; omega
  have r : ∀ j : Nat, rd l (j : Int) = l.getD j 0 := fun j => by simp [rd]
  unfold aquiferref1_Get.f
  rw [e1, e2, e3, e4, if_neg (by omega), if_neg (by omega), if_pos (by omega), if_pos (by omega), if_pos (by omega), if_pos (by omega), if_pos (by omega), if_pos (by omega), if_pos (by omega), if_pos (by omega), r, r, r, r]
  rw [or4 _ _ _ _ h0.1 h0.2 h1.1 h1.2 h2.1 h2.2 h3.1 h3.2]
  rfl
theorem RGet_no (l : List Int) (hn : l.length ≤ 1407374883551232) (i : Int) (hi : i < 0 ∨ (l.length : Int) < i + 4) : aquiferref1_Get.f l i = some (0, false) := by
  unfold aquiferref1_Get.f
  have e4 : wrap64 ((l.length : Int) - 4) = (l.length : Int) - 4 := by unfold wrap64; omega
  rw [e4]
  by_cases h1 : i < 0
  · rw [if_pos h1]
  · rw [if_neg h1, if_pos (by omega)]
theorem rdOf_drop {l : List ByteArray} {i : Nat} {s : ByteArray} {t : List ByteArray} (h : l.drop i = s :: t) : i < l.length ∧ rdOf ByteArray.empty l (i : Int) = s ∧ l.drop (i + 1) = t := by
  have hi : i < l.length := by
    refine Nat.lt_of_not_le fun hn => ?_
    rw [List.drop_eq_nil_of_le hn] at h; cases h
  have h0 : l[i]? = some s := by
    have := List.getElem?_drop (xs := l) (i := i) (j := 0)
    rw [h] at this; simpa using this.symm
  refine ⟨hi, by simp [rdOf, List.getD_eq_getElem?_getD, h0], ?_⟩
  rw [← List.drop_drop, h]; rfl
theorem Encode_l0 (l : List ByteArray) (hn : l.length ≤ 1099511627776) (rest : List ByteArray) : ∀ (i : Nat) (acc : List Int), l.drop i = rest → i ≤ l.length → acc.length + (items rest).length < 140737488355328 →
    Ev (fun k => code_Encode.l0 k acc l (l.length : Int) (i : Int)) (acc ++ items rest) := by
  induction rest with
  | nil =>
    intro i acc hd hi hl
    have := List.drop_eq_nil_iff.1 hd
    refine Ev.step (f := fun _ => some (acc ++ items [])) (fun k => ?_) (Ev.now _)
    simp only [code_Encode.l0]
    rw [if_neg (by omega), items, List.append_nil]
  | cons s rest ih =>
    intro i acc hd hi hl
    obtain ⟨hlt, hs, ht⟩ := rdOf_drop hd
    rw [items, List.length_append, item_length] at hl
    have c1 : acc.length + (u32 (s.size : Int)).length < 140737488355328 := by rw [u32_length]; omega
    have c2 : (acc ++ u32 (s.size : Int)).length + s.size < 140737488355328 := by rw [List.length_append, u32_length]; omega
    have e : acc ++ items (s :: rest) = (acc ++ u32 (s.size : Int) ++ bytesOf s) ++ items rest := by rw [items, item]; simp only [List.append_assoc]
    rw [e]
    refine Ev.step (fun k => ?_) (ih (i + 1) _ ht (by omega) (by rw [List.length_append, List.length_append, u32_length, bytesOf_length]; omega))
    simp only [code_Encode.l0]
    have l1 : (i : Int) < (l.length : Int) := by omega
    rw [if_pos l1, if_pos (Int.natCast_nonneg _), if_pos l1, hs, U32_f]
    simp only [Option.bind_some]
    rw [if_pos c1, if_pos c2, show wrap64 ((i : Int) + 1) = ((i + 1 : Nat) : Int) from by unfold wrap64; omega]
theorem Encode_ev (l : List ByteArray) (h : tot l ≤ 1000000) : Ev (fun k => code_Encode.f k l) (enc l) := by
  have h1 := items_le l
  have h2 := len_le_tot l
  unfold code_Encode.f
  simp only [U32_f, Option.bind_some]
  exact Encode_l0 l (by omega) l 0 (u32 (l.length : Int)) rfl (by omega) (by rw [u32_length]; omega)
theorem REncode_l0 (l : List ByteArray) (hn : l.length ≤ 1099511627776) (rest : List ByteArray) : ∀ (i : Nat) (acc : List Int), l.drop i = rest → i ≤ l.length → acc.length + (items rest).length < 140737488355328 →
    Ev (fun k => aquiferref1_Encode.l0 k l acc (i : Int)) (acc ++ items rest) := by
  induction rest with
  | nil =>
    intro i acc hd hi hl
    have := List.drop_eq_nil_iff.1 hd
    refine Ev.step (f := fun _ => some (acc ++ items [])) (fun k => ?_) (Ev.now _)
    simp only [aquiferref1_Encode.l0]
    rw [if_neg (by omega), items, List.append_nil]
  | cons s rest ih =>
    intro i acc hd hi hl
    obtain ⟨hlt, hs, ht⟩ := rdOf_drop hd
    rw [items, List.length_append, item_length] at hl
    have c1 : acc.length + (u32 (s.size : Int)).length < 140737488355328 := by rw [u32_length]; omega
    have c2 : (acc ++ u32 (s.size : Int)).length + s.size < 140737488355328 := by rw [List.length_append, u32_length]; omega
    have e : acc ++ items (s :: rest) = (acc ++ u32 (s.size : Int) ++ bytesOf s) ++ items rest := by rw [items, item]; simp only [List.append_assoc]
    rw [e]
    refine Ev.step (fun k => ?_) (ih (i + 1) _ ht (by omega) (by rw [List.length_append, List.length_append, u32_length, bytesOf_length]; omega))
    simp only [aquiferref1_Encode.l0]
    have l1 : (i : Int) < (l.length : Int) := by omega
    rw [if_pos l1, if_pos (Int.natCast_nonneg _), hs, RU32_f]
    simp only [Option.bind_some]
    rw [if_pos c1, if_pos c2, show wrap64 ((i : Int) + 1) = ((i + 1 : Nat) : Int) from by unfold wrap64; omega]
theorem REncode_ev (l : List ByteArray) (h : tot l ≤ 1000000) : Ev (fun k => aquiferref1_Encode.f k l) (enc l) := by
  have h1 := items_le l
  have h2 := len_le_tot l
  unfold aquiferref1_Encode.f
  simp only [RU32_f, Option.bind_some]
  exact REncode_l0 l (by omega) l 0 (u32 (l.length : Int)) rfl (by omega) (by rw [u32_length]; omega)
theorem Great_l0 (l : List ByteArray) (hn : l.length ≤ 1099511627776000) (rest : List ByteArray) : ∀ (i n : Nat), l.drop i = rest → i ≤ l.length → n ≤ 20000 →
    Ev (fun k => aquiferlaw2_Great.l0 k l (n : Int) (i : Int)) (decide (n + tot rest > 5000)) := by
  induction rest with
  | nil =>
    intro i n hd hi hn'
    have := List.drop_eq_nil_iff.1 hd
    refine Ev.step (f := fun _ => some (decide (n + tot [] > 5000))) (fun k => ?_) (Ev.now _)
    simp only [aquiferlaw2_Great.l0]
    rw [if_neg (by omega)]
    congr 1
    rw [tot]
    simp
    omega
  | cons s rest ih =>
    intro i n hd hi hn'
    obtain ⟨hlt, hs, ht⟩ := rdOf_drop hd
    have l1 : (i : Int) < (l.length : Int) := by omega
    by_cases h5 : n ≤ 5000
    · have hmn : wrap64 (wrap64 ((n : Int) + 1) + mn (s.size : Int) 5001) = ((n + 1 + min s.size 5001 : Nat) : Int) := by unfold mn wrap64; split <;> omega
      have e : (decide (n + tot (s :: rest) > 5000)) = decide ((n + 1 + min s.size 5001) + tot rest > 5000) := by
        rw [tot, decide_eq_decide]; omega
      rw [e]
      refine Ev.step (fun k => ?_) (ih (i + 1) _ ht (by omega) (by omega))
      simp only [aquiferlaw2_Great.l0]
      rw [if_pos l1, if_pos (by omega), if_pos (Int.natCast_nonneg _), hs, hmn, show wrap64 ((i : Int) + 1) = ((i + 1 : Nat) : Int) from by unfold wrap64; omega]
    · refine Ev.step (f := fun _ => some (decide (n + tot (s :: rest) > 5000))) (fun k => ?_) (Ev.now _)
      simp only [aquiferlaw2_Great.l0]
      rw [if_pos l1, if_neg (by omega)]
      congr 1
      rw [tot, decide_eq_decide]
      omega
theorem Great_ev (l : List ByteArray) (hn : l.length * 16 ≤ 140737488351232) : Ev (fun k => aquiferlaw2_Great.f k l) (decide (tot l > 5000)) := by
  unfold aquiferlaw2_Great.f
  have := Great_l0 l (by omega) l 0 0 rfl (by omega) (by omega)
  rw [Nat.zero_add] at this
  exact this
theorem awake_ev : Ev (fun k => aquiferlaw2_awake.f k) true := Ev.of (fun k => aquiferlaw2_awake.mono k) (k := 5) (by decide +kernel)
theorem Decode_end (b : List Int) (n i : Int) (at_ : Nat) (out : List ByteArray) (hi : ¬ i < n) (k : Nat) : code_Decode.l0 (k + 1) b (at_ : Int) n i out = some (got out (dec 0 (b.drop at_))) ∨ b.length < at_ := by
  by_cases hat : b.length < at_
  · exact .inr hat
  · refine .inl ?_
    simp only [code_Decode.l0]
    rw [if_neg hi, dec]
    by_cases he : at_ = b.length
    · rw [if_pos (by omega), if_pos (by rw [List.length_drop]; omega)]
      simp [got]
    · rw [if_neg (by omega), if_neg (by rw [List.length_drop]; omega)]
      rfl
theorem Decode_no (b : List Int) (lb : b.length ≤ 1000000) (n i : Int) (at_ : Nat) (out : List ByteArray) (hi : i < n) (h4 : b.length < at_ + 4) (d k : Nat) : code_Decode.l0 (k + 1) b (at_ : Int) n i out = some (got out (dec (d + 1) (b.drop at_))) := by
  have hg := Get_no b (by omega) (at_ : Int) (.inr (by omega))
  have hd : (b.drop at_).length < 4 := by rw [List.length_drop]; omega
  simp only [code_Decode.l0]
  rw [if_pos hi, hg, dec, if_pos hd]
  simp [got]
theorem Decode_far (b : List Int) (hb : ∀ x ∈ b, 0 ≤ x ∧ x < 256) (lb : b.length ≤ 1000000) (n i : Int) (at_ : Nat) (out : List ByteArray) (hi : i < n) (h4 : at_ + 4 ≤ b.length) (hk : num b at_ > (b.length : Int) - ((at_ + 4 : Nat) : Int)) (d k : Nat) :
    code_Decode.l0 (k + 1) b (at_ : Int) n i out = some (got out (dec (d + 1) (b.drop at_))) := by
  have hg := Get_yes b hb (by omega) at_ h4
  have e4 : wrap64 ((at_ : Int) + 4) = ((at_ + 4 : Nat) : Int) := by unfold wrap64; omega
  have hdl : (b.drop at_).length = b.length - at_ := List.length_drop
  have hnd : num (b.drop at_) 0 = num b at_ := num_drop b at_ 0
  have el : wrap64 ((b.length : Int) - ((at_ + 4 : Nat) : Int)) = (b.length : Int) - ((at_ + 4 : Nat) : Int) := wrap64_small (by omega) (by omega)
  have hd1 : ¬ (b.drop at_).length < 4 := by omega
  have hd2 : num (b.drop at_) 0 > ((b.drop at_).length : Int) - 4 := by rw [hnd]; omega
  simp only [code_Decode.l0]
  rw [if_pos hi, hg, dec, if_neg hd1, if_pos hd2]
  simp only [Option.bind_some, e4, el, if_pos hk, if_true]
  rfl
theorem Decode_step (b : List Int) (hb : ∀ x ∈ b, 0 ≤ x ∧ x < 256) (lb : b.length ≤ 1000000) (n i : Int) (at_ m : Nat) (out : List ByteArray) (h0 : 0 ≤ i) (hi : i < n) (hn : n < 4294967296) (h4 : at_ + 4 ≤ b.length) (ho : out.length ≤ at_)
    (hm : num b at_ = m) (hk : ¬ (m : Int) > (b.length : Int) - ((at_ + 4 : Nat) : Int)) (k : Nat) :
    code_Decode.l0 (k + 1) b (at_ : Int) n i out = code_Decode.l0 k b ((at_ + 4 + m : Nat) : Int) n (i + 1) (out ++ [strOfNums (((b.drop at_).drop 4).take m)]) := by
  have hg := Get_yes b hb (by omega) at_ h4
  rw [hm] at hg
  have e4 : wrap64 ((at_ : Int) + 4) = ((at_ + 4 : Nat) : Int) := by unfold wrap64; omega
  have el : wrap64 ((b.length : Int) - ((at_ + 4 : Nat) : Int)) = (b.length : Int) - ((at_ + 4 : Nat) : Int) := wrap64_small (by omega) (by omega)
  have es : wrap64 (((at_ + 4 : Nat) : Int) + (m : Int)) = ((at_ + 4 + m : Nat) : Int) := by unfold wrap64; omega
  have ei : wrap64 (i + 1) = i + 1 := wrap64_small (by omega) (by omega)
  have ecut : (b.take (at_ + 4 + m)).drop (at_ + 4) = ((b.drop at_).drop 4).take m := by
    rw [List.drop_take, List.drop_drop, show at_ + 4 + m - (at_ + 4) = m from by omega]
  have c3 : ((at_ + 4 : Nat) : Int) ≤ ((at_ + 4 + m : Nat) : Int) := by omega
  have c4 : ((at_ + 4 + m : Nat) : Int) ≤ (b.length : Int) := by omega
  have c5 : out.length < 8796093022208 := by omega
  simp only [code_Decode.l0]
  rw [if_pos hi, hg]
  simp only [Option.bind_some, e4, el, if_neg hk, if_true, es, if_pos (Int.natCast_nonneg (at_ + 4)), if_pos c3, if_pos c4, if_pos c5, Int.toNat_natCast, ecut, ei]
theorem dec_step (b : List Int) (at_ m d : Nat) (h4 : at_ + 4 ≤ b.length) (hm : num b at_ = m) (hk : ¬ (m : Int) > (b.length : Int) - ((at_ + 4 : Nat) : Int)) :
    dec (d + 1) (b.drop at_) = (dec d (b.drop (at_ + 4 + m))).map fun l => strOfNums (((b.drop at_).drop 4).take m) :: l := by
  have hdl : (b.drop at_).length = b.length - at_ := List.length_drop
  have hnd : num (b.drop at_) 0 = (m : Int) := (num_drop b at_ 0).trans hm
  have hdd : (b.drop at_).drop (4 + m) = b.drop (at_ + 4 + m) := by rw [List.drop_drop, Nat.add_assoc]
  have hd1 : ¬ (b.drop at_).length < 4 := by omega
  have hd2 : ¬ (m : Int) > ((b.drop at_).length : Int) - 4 := by omega
  rw [dec, if_neg hd1, hnd, if_neg hd2, Int.toNat_natCast, hdd]
theorem Decode_l0 (b : List Int) (hb : ∀ x ∈ b, 0 ≤ x ∧ x < 256) (lb : b.length ≤ 1000000) (n : Int) (hn : n < 4294967296) (d : Nat) : ∀ (i : Int) (at_ : Nat) (out : List ByteArray), 0 ≤ i → i + d = n → at_ ≤ b.length → out.length ≤ at_ →
    Ev (fun k => code_Decode.l0 k b (at_ : Int) n i out) (got out (dec d (b.drop at_))) := by
  induction d with
  | zero =>
    intro i at_ out h0 hi hat ho
    refine Ev.step (f := fun _ => some (got out (dec 0 (b.drop at_)))) (fun k => ?_) (Ev.now _)
    rcases Decode_end b n i at_ out (by omega) k with h | h
    · exact h
    · omega
  | succ d ih =>
    intro i at_ out h0 hi hat ho
    have hin : i < n := by omega
    have hi1 : i + 1 + (d : Int) = n := by omega
    by_cases h4 : at_ + 4 ≤ b.length
    · by_cases hk : num b at_ > (b.length : Int) - ((at_ + 4 : Nat) : Int)
      · exact Ev.step (f := fun _ => some (got out (dec (d + 1) (b.drop at_)))) (fun k => Decode_far b hb lb n i at_ out hin h4 hk d k) (Ev.now _)
      · have hr := num_range b hb at_
        obtain ⟨m, hm⟩ : ∃ m : Nat, num b at_ = m := ⟨(num b at_).toNat, by omega⟩
        rw [hm] at hk
        have hlo : (out ++ [strOfNums (((b.drop at_).drop 4).take m)]).length ≤ at_ + 4 + m := by rw [List.length_append, List.length_singleton]; omega
        have hat2 : at_ + 4 + m ≤ b.length := by omega
        rw [dec_step b at_ m d h4 hm hk, got_map]
        exact Ev.step (Decode_step b hb lb n i at_ m out h0 hin hn h4 ho hm hk) (ih (i + 1) (at_ + 4 + m) _ (by omega) hi1 hat2 hlo)
    · exact Ev.step (f := fun _ => some (got out (dec (d + 1) (b.drop at_)))) (fun k => Decode_no b lb n i at_ out hin (by omega) d k) (Ev.now _)
theorem Decode_ev (b : List Int) (hb : ∀ x ∈ b, 0 ≤ x ∧ x < 256) (lb : b.length ≤ 1000000) : Ev (fun k => code_Decode.f k b) (Dec b) := by
  unfold code_Decode.f Dec
  by_cases h4 : b.length < 4
  · have hg := Get_no b (by omega) 0 (.inr (by omega))
    rw [if_pos h4, hg]
    simp only [Option.bind_some, Bool.false_eq_true, if_false]
    exact Ev.now _
  · have hg := Get_yes b hb (by omega) 0 (by omega)
    have hr := num_range b hb 0
    rw [if_neg h4, show (0 : Int) = ((0 : Nat) : Int) from rfl, hg]
    simp only [Option.bind_some, if_true]
    have ew : wrap64 ((b.length : Int) / 4) = (b.length : Int) / 4 := wrap64_small (by omega) (by omega)
    rw [ew]
    by_cases hn : num b 0 > (b.length : Int) / 4
    · simp only [if_pos hn]
      rw [dec_short _ _ (range_drop hb 4) (by rw [List.length_drop]; omega)]
      exact Ev.now _
    · simp only [if_neg hn]
      have := Decode_l0 b hb lb (num b 0) hr.2 (num b 0).toNat 0 4 [] (by omega) (by omega) (by omega) (by simp)
      simpa using this
theorem RDecode_end (b : List Int) (n i : Int) (at_ : Nat) (out : List ByteArray) (hi : ¬ i < n) (k : Nat) : aquiferref1_Decode.l0 (k + 1) b n (at_ : Int) out i = some (got out (dec 0 (b.drop at_))) ∨ b.length < at_ := by
  by_cases hat : b.length < at_
  · exact .inr hat
  · refine .inl ?_
    simp only [aquiferref1_Decode.l0]
    rw [if_neg hi, dec]
    by_cases he : at_ = b.length
    · rw [if_pos (by omega), if_pos (by rw [List.length_drop]; omega)]
      simp [got]
    · rw [if_neg (by omega), if_neg (by rw [List.length_drop]; omega)]
      rfl
theorem RDecode_no (b : List Int) (lb : b.length ≤ 1000000) (n i : Int) (at_ : Nat) (out : List ByteArray) (hi : i < n) (h4 : b.length < at_ + 4) (d k : Nat) : aquiferref1_Decode.l0 (k + 1) b n (at_ : Int) out i = some (got out (dec (d + 1) (b.drop at_))) := by
  have hg := RGet_no b (by omega) (at_ : Int) (.inr (by omega))
  have hd : (b.drop at_).length < 4 := by rw [List.length_drop]; omega
  simp only [aquiferref1_Decode.l0]
  rw [if_pos hi, hg, dec, if_pos hd]
  simp [got]
theorem RDecode_far (b : List Int) (hb : ∀ x ∈ b, 0 ≤ x ∧ x < 256) (lb : b.length ≤ 1000000) (n i : Int) (at_ : Nat) (out : List ByteArray) (hi : i < n) (h4 : at_ + 4 ≤ b.length) (hk : num b at_ > (b.length : Int) - ((at_ + 4 : Nat) : Int)) (d k : Nat) :
    aquiferref1_Decode.l0 (k + 1) b n (at_ : Int) out i = some (got out (dec (d + 1) (b.drop at_))) := by
  have hg := RGet_yes b hb (by omega) at_ h4
  have e4 : wrap64 ((at_ : Int) + 4) = ((at_ + 4 : Nat) : Int) := by unfold wrap64; omega
  have hdl : (b.drop at_).length = b.length - at_ := List.length_drop
  have hnd : num (b.drop at_) 0 = num b at_ := num_drop b at_ 0
  have el : wrap64 (wrap64 ((b.length : Int) - (at_ : Int)) - 4) = (b.length : Int) - ((at_ + 4 : Nat) : Int) := by unfold wrap64; omega
  have hd1 : ¬ (b.drop at_).length < 4 := by omega
  have hd2 : num (b.drop at_) 0 > ((b.drop at_).length : Int) - 4 := by rw [hnd]; omega
  simp only [aquiferref1_Decode.l0]
  rw [if_pos hi, hg, dec, if_neg hd1, if_pos hd2]
  simp only [Option.bind_some, e4, el, if_pos hk, if_true]
  rfl
theorem RDecode_step (b : List Int) (hb : ∀ x ∈ b, 0 ≤ x ∧ x < 256) (lb : b.length ≤ 1000000) (n i : Int) (at_ m : Nat) (out : List ByteArray) (h0 : 0 ≤ i) (hi : i < n) (hn : n < 4294967296) (h4 : at_ + 4 ≤ b.length) (ho : out.length ≤ at_)
    (hm : num b at_ = m) (hk : ¬ (m : Int) > (b.length : Int) - ((at_ + 4 : Nat) : Int)) (k : Nat) :
    aquiferref1_Decode.l0 (k + 1) b n (at_ : Int) out i = aquiferref1_Decode.l0 k b n ((at_ + 4 + m : Nat) : Int) (out ++ [strOfNums (((b.drop at_).drop 4).take m)]) (i + 1) := by
  have hg := RGet_yes b hb (by omega) at_ h4
  rw [hm] at hg
  have e4 : wrap64 ((at_ : Int) + 4) = ((at_ + 4 : Nat) : Int) := by unfold wrap64; omega
  have el : wrap64 (wrap64 ((b.length : Int) - (at_ : Int)) - 4) = (b.length : Int) - ((at_ + 4 : Nat) : Int) := by unfold wrap64; omega
  have es : wrap64 (((at_ + 4 : Nat) : Int) + (m : Int)) = ((at_ + 4 + m : Nat) : Int) := by unfold wrap64; omega
  have ei : wrap64 (i + 1) = i + 1 := wrap64_small (by omega) (by omega)
  have ecut : (b.take (at_ + 4 + m)).drop (at_ + 4) = ((b.drop at_).drop 4).take m := by
    rw [List.drop_take, List.drop_drop, show at_ + 4 + m - (at_ + 4) = m from by omega]
  have c3 : ((at_ + 4 : Nat) : Int) ≤ ((at_ + 4 + m : Nat) : Int) := by omega
  have c4 : ((at_ + 4 + m : Nat) : Int) ≤ (b.length : Int) := by omega
  have c5 : out.length < 8796093022208 := by omega
  simp only [aquiferref1_Decode.l0]
  rw [if_pos hi, hg]
  simp only [Option.bind_some, e4, el, if_neg hk, if_true, es, if_pos (Int.natCast_nonneg (at_ + 4)), if_pos c3, if_pos c4, if_pos c5, Int.toNat_natCast, ecut, ei]
theorem rdec_step (b : List Int) (at_ m d : Nat) (h4 : at_ + 4 ≤ b.length) (hm : num b at_ = m) (hk : ¬ (m : Int) > (b.length : Int) - ((at_ + 4 : Nat) : Int)) :
    dec (d + 1) (b.drop at_) = (dec d (b.drop (at_ + 4 + m))).map fun l => strOfNums (((b.drop at_).drop 4).take m) :: l := by
  have hdl : (b.drop at_).length = b.length - at_ := List.length_drop
  have hnd : num (b.drop at_) 0 = (m : Int) := (num_drop b at_ 0).trans hm
  have hdd : (b.drop at_).drop (4 + m) = b.drop (at_ + 4 + m) := by rw [List.drop_drop, Nat.add_assoc]
  have hd1 : ¬ (b.drop at_).length < 4 := by omega
  have hd2 : ¬ (m : Int) > ((b.drop at_).length : Int) - 4 := by omega
  rw [dec, if_neg hd1, hnd, if_neg hd2, Int.toNat_natCast, hdd]
theorem RDecode_l0 (b : List Int) (hb : ∀ x ∈ b, 0 ≤ x ∧ x < 256) (lb : b.length ≤ 1000000) (n : Int) (hn : n < 4294967296) (d : Nat) : ∀ (i : Int) (at_ : Nat) (out : List ByteArray), 0 ≤ i → i + d = n → at_ ≤ b.length → out.length ≤ at_ →
    Ev (fun k => aquiferref1_Decode.l0 k b n (at_ : Int) out i) (got out (dec d (b.drop at_))) := by
  induction d with
  | zero =>
    intro i at_ out h0 hi hat ho
    refine Ev.step (f := fun _ => some (got out (dec 0 (b.drop at_)))) (fun k => ?_) (Ev.now _)
    rcases RDecode_end b n i at_ out (by omega) k with h | h
    · exact h
    · omega
  | succ d ih =>
    intro i at_ out h0 hi hat ho
    have hin : i < n := by omega
    have hi1 : i + 1 + (d : Int) = n := by omega
    by_cases h4 : at_ + 4 ≤ b.length
    · by_cases hk : num b at_ > (b.length : Int) - ((at_ + 4 : Nat) : Int)
      · exact Ev.step (f := fun _ => some (got out (dec (d + 1) (b.drop at_)))) (fun k => RDecode_far b hb lb n i at_ out hin h4 hk d k) (Ev.now _)
      · have hr := num_range b hb at_
        obtain ⟨m, hm⟩ : ∃ m : Nat, num b at_ = m := ⟨(num b at_).toNat, by omega⟩
        rw [hm] at hk
        have hlo : (out ++ [strOfNums (((b.drop at_).drop 4).take m)]).length ≤ at_ + 4 + m := by rw [List.length_append, List.length_singleton]; omega
        have hat2 : at_ + 4 + m ≤ b.length := by omega
        rw [rdec_step b at_ m d h4 hm hk, got_map]
        exact Ev.step (RDecode_step b hb lb n i at_ m out h0 hin hn h4 ho hm hk) (ih (i + 1) (at_ + 4 + m) _ (by omega) hi1 hat2 hlo)
    · exact Ev.step (f := fun _ => some (got out (dec (d + 1) (b.drop at_)))) (fun k => RDecode_no b lb n i at_ out hin (by omega) d k) (Ev.now _)
theorem RDecode_ev (b : List Int) (hb : ∀ x ∈ b, 0 ≤ x ∧ x < 256) (lb : b.length ≤ 1000000) : Ev (fun k => aquiferref1_Decode.f k b) (Dec b) := by
  unfold aquiferref1_Decode.f Dec
  by_cases h4 : b.length < 4
  · have hg := RGet_no b (by omega) 0 (.inr (by omega))
    rw [if_pos h4, hg]
    simp only [Option.bind_some, Bool.false_eq_true, if_false]
    exact Ev.now _
  · have hg := RGet_yes b hb (by omega) 0 (by omega)
    have hr := num_range b hb 0
    rw [if_neg h4, show (0 : Int) = ((0 : Nat) : Int) from rfl, hg]
    simp only [Option.bind_some, if_true]
    have := RDecode_l0 b hb lb (num b 0) hr.2 (num b 0).toNat 0 4 [] (by omega) (by omega) (by omega) (by simp)
    simpa using this
theorem Texts_l0 (a : List ByteArray) (ha : a.length ≤ 1099511627776000) (r : List ByteArray) : ∀ (b r2 : List ByteArray) (i : Nat), a.length = b.length → a.drop i = r → b.drop i = r2 → i ≤ a.length →
    Ev (fun k => aquiferref11_Texts.l0 k a b (i : Int)) (decide (r = r2)) := by
  induction r with
  | nil =>
    intro b r2 i hl hd hd2 hi
    have h1 := List.drop_eq_nil_iff.1 hd
    have h2 : r2 = [] := by rw [← hd2, List.drop_eq_nil_iff]; omega
    subst h2
    refine Ev.step (f := fun _ => some true) (fun k => ?_) (Ev.now _)
    simp only [aquiferref11_Texts.l0]
    rw [if_neg (by omega)]
  | cons s r ih =>
    intro b r2 i hl hd hd2 hi
    obtain ⟨hlt, hs, ht⟩ := rdOf_drop hd
    obtain ⟨s2, t2, h2⟩ : ∃ s2 t2, r2 = s2 :: t2 := by
      cases r2 with
      | nil => have := List.drop_eq_nil_iff.1 hd2; omega
      | cons x y => exact ⟨x, y, rfl⟩
    subst h2
    obtain ⟨hlt2, hs2, ht2⟩ := rdOf_drop hd2
    have l1 : (i : Int) < (a.length : Int) := by omega
    have l2 : (i : Int) < (b.length : Int) := by omega
    by_cases he : s = s2
    · subst he
      have e : decide (s :: r = s :: t2) = decide (r = t2) := by simp
      rw [e]
      refine Ev.step (fun k => ?_) (ih b t2 (i + 1) hl ht ht2 (by omega))
      simp only [aquiferref11_Texts.l0]
      rw [if_pos l1, if_pos (Int.natCast_nonneg _), if_pos l2, hs, hs2, if_pos rfl, show wrap64 ((i : Int) + 1) = ((i + 1 : Nat) : Int) from by unfold wrap64; omega]
    · have e : decide (s :: r = s2 :: t2) = false := by simp [he]
      rw [e]
      refine Ev.step (f := fun _ => some false) (fun k => ?_) (Ev.now _)
      simp only [aquiferref11_Texts.l0]
      rw [if_pos l1, if_pos (Int.natCast_nonneg _), if_pos l2, hs, hs2, if_neg (fun h => he (toList_inj h))]
theorem Texts_ev (a b : List ByteArray) (ha : a.length ≤ 1099511627776000) : Ev (fun k => aquiferref11_Texts.f k a b) (decide (a = b)) := by
  unfold aquiferref11_Texts.f
  by_cases hl : (a.length : Int) = (b.length : Int)
  · simp only [if_pos hl]
    exact Texts_l0 a ha a b b 0 (by omega) rfl rfl (by omega)
  · simp only [if_neg hl]
    have e : decide (a = b) = false := by
      rw [decide_eq_false_iff_not]
      intro h; rw [h] at hl; exact hl rfl
    rw [e]
    exact Ev.now _
theorem j0_true (n at_ : Int) (b : List Int) (l : List ByteArray) : Ev (fun k => aquiferlaw2_CodeAll.j0 k n at_ b l true) true := by
  refine Ev.step (fun k => ?_) awake_ev
  simp only [aquiferlaw2_CodeAll.j0, if_true]
  cases aquiferlaw2_awake.f k <;> rfl
theorem Get_both (b : List Int) (hb : ∀ x ∈ b, 0 ≤ x ∧ x < 256) (lb : b.length ≤ 5000) (i : Int) : ∃ r, code_Get.f b i = some r ∧ aquiferref1_Get.f b i = some r := by
  by_cases h : 0 ≤ i ∧ i + 4 ≤ (b.length : Int)
  · obtain ⟨m, rfl⟩ := Int.eq_ofNat_of_zero_le h.1
    exact ⟨_, Get_yes b hb (by omega) m (by omega), RGet_yes b hb (by omega) m (by omega)⟩
  · exact ⟨_, Get_no b (by omega) i (by omega), RGet_no b (by omega) i (by omega)⟩
theorem dec_length (n : Nat) : ∀ (r : List Int) (l : List ByteArray), dec n r = some l → l.length * 4 ≤ r.length := by
  induction n with
  | zero =>
    intro r l h
    rw [dec] at h
    split at h
    · cases h; simp
    · cases h
  | succ n ih =>
    intro r l h
    rw [dec] at h
    split at h
    · cases h
    · split at h
      · cases h
      · obtain ⟨t, ht, rfl⟩ := Option.map_eq_some_iff.1 h
        have := ih _ _ ht
        rw [List.length_drop] at this
        rw [List.length_cons]
        omega
theorem Dec_length (b : List Int) : (Dec b).1.length ≤ b.length := by
  unfold Dec
  split
  · simp
  · cases h : dec (num b 0).toNat (b.drop 4) with
    | none => simp [got]
    | some l =>
      have := dec_length _ _ _ h
      rw [List.length_drop] at this
      simp [got]; omega
theorem j0_false (n at_ : Int) (b : List Int) (hb : ∀ x ∈ b, 0 ≤ x ∧ x < 256) (lb : b.length ≤ 5000) (l : List ByteArray) (hl : tot l ≤ 5000) : Ev (fun k => aquiferlaw2_CodeAll.j0 k n at_ b l false) true := by
  obtain ⟨⟨g, o⟩, h1, h2⟩ := Get_both b hb lb at_
  have hdl := Dec_length b
  have hT := Texts_ev (Dec b).1 (Dec b).1 (by omega)
  rw [decide_eq_true rfl] at hT
  refine Ev.step (f := fun k => (code_Decode.f k b).bind fun bt165 => (aquiferref1_Decode.f k b).bind fun bt169 => (code_Encode.f k l).bind fun t179 => (aquiferref1_Encode.f k l).bind fun t182 => if (strOfNums t179).toList = (strOfNums t182).toList then (aquiferref11_Texts.f k bt165.1 bt169.1).bind fun t185 => if t185 = true then (if bt165.2 = bt169.2 then (aquiferlaw2_awake.f k).bind fun t187 => some t187 else some false) else some false else some false) (fun k => ?_) ?_
  · simp only [aquiferlaw2_CodeAll.j0, Bool.false_eq_true, if_false, h1, h2, Option.bind_some, U32_f, RU32_f, if_true, beq_self_eq_true, aquiferlaw1_Num.f]
  · refine Ev.bind (Decode_ev b hb (by omega)) (Ev.bind (RDecode_ev b hb (by omega)) (Ev.bind (Encode_ev l (by omega)) (Ev.bind (REncode_ev l (by omega)) ?_)))
    simp only [if_true]
    refine Ev.bind hT ?_
    simp only [if_true]
    exact Ev.bind awake_ev (Ev.now _)
end CodeAllP
open CodeAllP
theorem CodeAll : aquiferlaw2_CodeAll.Pure := by
  intro n at_ b l _ _ _ hb2 wb hl
  refine Ev.rounds ?_
  unfold aquiferlaw2_CodeAll.f
  by_cases hc : (b.length : Int) > 5000
  · simp only [if_pos hc]; exact j0_true n at_ b l
  · simp only [if_neg hc]
    refine Ev.bind (Great_ev l hl) ?_
    by_cases hg : tot l > 5000
    · rw [decide_eq_true hg]; exact j0_true n at_ b l
    · rw [decide_eq_false hg]; exact j0_false n at_ b (fun x hx => wf_u8 (wb x hx)) (by omega) l (by omega)
end Go.Proofs.Ytedoechheeclgaa.Pure
