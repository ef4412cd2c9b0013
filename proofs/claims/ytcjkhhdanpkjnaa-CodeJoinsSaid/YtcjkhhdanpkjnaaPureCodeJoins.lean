/- The statement CodeJoins over numbers and lists: the bytes of two lists of texts together, each of at most 5000 together, are how many there are, and the texts of both. No further condition. -/
import Derived.Test.YtcjkhhdanpkjnaaQCodeJoinsx2
import Derived.Test.YtcjkhhdanpkjnaaCode
namespace Go.Proofs.Ytcjkhhdanpkjnaa.Pure
open Go.RowKit Go.Proofs.Ytcjkhhdanpkjnaa.QCodeJoins Go.Proofs.Ytcjkhhdanpkjnaa.Num Go.Proofs.Ytcjkhhdanpkjnaa.Code Go.Proofs.YtcjkhhdanpkjnaaW.PrintWords Go.Proofs.YtcjkhhdanpkjnaaW.PrintLast Go.Proofs.YtcjkhhdanpkjnaaW.PrintMore
namespace CodeJoinsP
theorem U32_f (n : Int) : code_U32.f n = some (u32 n) := rfl
theorem Get_yes (l : List Int) (h : ∀ x ∈ l, 0 ≤ x ∧ x < 256) (hn : l.length ≤ 1407374883551232) (i : Nat) (hi : i + 4 ≤ l.length) : code_Get.f l (i : Int) = some (num l i, true) := by
  have h0 := byte_getD l h i
  have h1 := byte_getD l h (i + 1)
  have h2 := byte_getD l h (i + 2)
  have h3 := byte_getD l h (i + 3)
  have e1 : wrap64 ((i : Int) + 1) = ((i + 1 : Nat) : Int) := by unfold wrap64; omega
  have e2 : wrap64 ((i : Int) + 2) = ((i + 2 : Nat) : Int) := by unfold wrap64; omega
  have e3 : wrap64 ((i : Int) + 3) = ((i + 3 : Nat) : Int) := by unfold wrap64; omega
  have e4 : wrap64 ((l.length : Int) - 4) = (l.length : Int) - 4 := by unfold wrap64; omega
  have r : ∀ j : Nat, rd l (j : Int) = l.getD j 0 := fun j => by simp [rd]
  unfold code_Get.f
  rw [e1, e2, e3, e4, if_neg (by omega), if_neg (by omega), if_neg (by omega), if_pos (by omega), if_pos (by omega), if_pos (by omega), if_pos (by omega), if_pos (by omega), if_pos (by omega), if_pos (by omega), if_pos (by omega), r, r, r, r]
  rw [or4 _ _ _ _ h0.1 h0.2 h1.1 h1.2 h2.1 h2.2 h3.1 h3.2]
  rfl
theorem Get_no (l : List Int) (hn : l.length ≤ 1407374883551232) (i : Int) (hi : i < 0 ∨ (l.length : Int) < i + 4) : code_Get.f l i = some (0, false) := by
  unfold code_Get.f
  have e4 : wrap64 ((l.length : Int) - 4) = (l.length : Int) - 4 := by unfold wrap64; omega
  rw [e4]
  by_cases h1 : i < 0
  · rw [if_pos h1]
  · rw [if_neg h1]
    by_cases h2 : (l.length : Int) < 4
    · rw [if_pos h2]
    · rw [if_neg h2, if_pos (by omega)]
theorem rdOf_drop {l : List ByteArray} {i : Nat} {s : ByteArray} {t : List ByteArray} (h : l.drop i = s :: t) : i < l.length ∧ rdOf ByteArray.empty l (i : Int) = s ∧ l.drop (i + 1) = t := by
  have hi : i < l.length := by
    refine Nat.lt_of_not_le fun hn => ?_
    rw [List.drop_eq_nil_of_le hn] at h; cases h
  have h0 : l[i]? = some s := by
    have := List.getElem?_drop (xs := l) (i := i) (j := 0)
    rw [h] at this; simpa using this.symm
  refine ⟨hi, by simp [rdOf, List.getD_eq_getElem?_getD, h0], ?_⟩
  rw [← List.drop_drop, h]; rfl
theorem Encode_l0 (l : List ByteArray) (hn : l.length ≤ 1099511627776) (rest : List ByteArray) : ∀ (i : Nat) (acc : List Int), l.drop i = rest → i ≤ l.length → acc.length + (items rest).length < 140737488355328 →
    Ev (fun k => code_Encode.l0 k acc l (l.length : Int) (i : Int)) (acc ++ items rest) := by
  induction rest with
  | nil =>
    intro i acc hd hi hl
    have := List.drop_eq_nil_iff.1 hd
    refine Ev.step (f := fun _ => some (acc ++ items [])) (fun k => ?_) (Ev.now _)
    simp only [code_Encode.l0]
    rw [if_neg (by omega), items, List.append_nil]
  | cons s rest ih =>
    intro i acc hd hi hl
    obtain ⟨hlt, hs, ht⟩ := rdOf_drop hd
    rw [items, List.length_append, item_length] at hl
    have c1 : acc.length + (u32 (s.size : Int)).length < 140737488355328 := by rw [u32_length]; omega
    have c2 : (acc ++ u32 (s.size : Int)).length + s.size < 140737488355328 := by rw [List.length_append, u32_length]; omega
    have e : acc ++ items (s :: rest) = (acc ++ u32 (s.size : Int) ++ bytesOf s) ++ items rest := by rw [items, item]; simp only [List.append_assoc]
    rw [e]
    refine Ev.step (fun k => ?_) (ih (i + 1) _ ht (by omega) (by rw [List.length_append, List.length_append, u32_length, bytesOf_length]; omega))
    simp only [code_Encode.l0]
    have l1 : (i : Int) < (l.length : Int) := by omega
    rw [if_pos l1, if_pos (Int.natCast_nonneg _), if_pos l1, hs, U32_f]
    simp only [Option.bind_some]
    rw [if_pos c1, if_pos c2, show wrap64 ((i : Int) + 1) = ((i + 1 : Nat) : Int) from by unfold wrap64; omega]
theorem Encode_ev (l : List ByteArray) (h : tot l ≤ 1000000) : Ev (fun k => code_Encode.f k l) (enc l) := by
  have h1 := items_le l
  have h2 := len_le_tot l
  unfold code_Encode.f
  simp only [U32_f, Option.bind_some]
  exact Encode_l0 l (by omega) l 0 (u32 (l.length : Int)) rfl (by omega) (by rw [u32_length]; omega)
theorem Great_l0 (l : List ByteArray) (hn : l.length ≤ 1099511627776000) (rest : List ByteArray) : ∀ (i n : Nat), l.drop i = rest → i ≤ l.length → n ≤ 20000 →
    Ev (fun k => aquiferlaw2_Great.l0 k l (n : Int) (i : Int)) (decide (n + tot rest > 5000)) := by
  induction rest with
  | nil =>
    intro i n hd hi hn'
    have := List.drop_eq_nil_iff.1 hd
    refine Ev.step (f := fun _ => some (decide (n + tot [] > 5000))) (fun k => ?_) (Ev.now _)
    simp only [aquiferlaw2_Great.l0]
    rw [if_neg (by omega)]
    congr 1
    rw [tot]
    simp
    omega
  | cons s rest ih =>
    intro i n hd hi hn'
    obtain ⟨hlt, hs, ht⟩ := rdOf_drop hd
    have l1 : (i : Int) < (l.length : Int) := by omega
    by_cases h5 : n ≤ 5000
    · have hmn : wrap64 (wrap64 ((n : Int) + 1) + mn (s.size : Int) 5001) = ((n + 1 + min s.size 5001 : Nat) : Int) := by unfold mn wrap64; split <;> omega
      have e : (decide (n + tot (s :: rest) > 5000)) = decide ((n + 1 + min s.size 5001) + tot rest > 5000) := by
        rw [tot, decide_eq_decide]; omega
      rw [e]
      refine Ev.step (fun k => ?_) (ih (i + 1) _ ht (by omega) (by omega))
      simp only [aquiferlaw2_Great.l0]
      rw [if_pos l1, if_pos (by omega), if_pos (Int.natCast_nonneg _), hs, hmn, show wrap64 ((i : Int) + 1) = ((i + 1 : Nat) : Int) from by unfold wrap64; omega]
    · refine Ev.step (f := fun _ => some (decide (n + tot (s :: rest) > 5000))) (fun k => ?_) (Ev.now _)
      simp only [aquiferlaw2_Great.l0]
      rw [if_pos l1, if_neg (by omega)]
      congr 1
      rw [tot, decide_eq_decide]
      omega
theorem Great_ev (l : List ByteArray) (hn : l.length * 16 ≤ 140737488351232) : Ev (fun k => aquiferlaw2_Great.f k l) (decide (tot l > 5000)) := by
  unfold aquiferlaw2_Great.f
  have := Great_l0 l (by omega) l 0 0 rfl (by omega) (by omega)
  rw [Nat.zero_add] at this
  exact this
theorem awake_ev : Ev (fun k => aquiferlaw2_awake.f k) true := Ev.of (fun k => aquiferlaw2_awake.mono k) (k := 5) (by decide +kernel)
theorem Decode_end (b : List Int) (n i : Int) (at_ : Nat) (out : List ByteArray) (hi : ¬ i < n) (k : Nat) : code_Decode.l0 (k + 1) b (at_ : Int) n i out = some (got out (dec 0 (b.drop at_))) ∨ b.length < at_ := by
  by_cases hat : b.length < at_
  · exact .inr hat
  · refine .inl ?_
    simp only [code_Decode.l0]
    rw [if_neg hi, dec]
    by_cases he : at_ = b.length
    · rw [if_pos (by omega), if_pos (by rw [List.length_drop]; omega)]
      simp [got]
    · rw [if_neg (by omega), if_neg (by rw [List.length_drop]; omega)]
      rfl
theorem Decode_no (b : List Int) (lb : b.length ≤ 1000000) (n i : Int) (at_ : Nat) (out : List ByteArray) (hi : i < n) (h4 : b.length < at_ + 4) (d k : Nat) : code_Decode.l0 (k + 1) b (at_ : Int) n i out = some (got out (dec (d + 1) (b.drop at_))) := by
  have hg := Get_no b (by omega) (at_ : Int) (.inr (by omega))
  have hd : (b.drop at_).length < 4 := by rw [List.length_drop]; omega
  simp only [code_Decode.l0]
  rw [if_pos hi, hg, dec, if_pos hd]
  simp [got]
theorem Decode_far (b : List Int) (hb : ∀ x ∈ b, 0 ≤ x ∧ x < 256) (lb : b.length ≤ 1000000) (n i : Int) (at_ : Nat) (out : List ByteArray) (hi : i < n) (h4 : at_ + 4 ≤ b.length) (hk : num b at_ > (b.length : Int) - ((at_ + 4 : Nat) : Int)) (d k : Nat) :
    code_Decode.l0 (k + 1) b (at_ : Int) n i out = some (got out (dec (d + 1) (b.drop at_))) := by
  have hg := Get_yes b hb (by omega) at_ h4
  have e4 : wrap64 ((at_ : Int) + 4) = ((at_ + 4 : Nat) : Int) := by unfold wrap64; omega
  have hdl : (b.drop at_).length = b.length - at_ := List.length_drop
  have hnd : num (b.drop at_) 0 = num b at_ := num_drop b at_ 0
  have el : wrap64 ((b.length : Int) - ((at_ + 4 : Nat) : Int)) = (b.length : Int) - ((at_ + 4 : Nat) : Int) := wrap64_small (by omega) (by omega)
  have hd1 : ¬ (b.drop at_).length < 4 := by omega
  have hd2 : num (b.drop at_) 0 > ((b.drop at_).length : Int) - 4 := by rw [hnd]; omega
  simp only [code_Decode.l0]
  rw [if_pos hi, hg, dec, if_neg hd1, if_pos hd2]
  simp only [Option.bind_some, e4, el, if_pos hk, if_true]
  rfl
theorem Decode_step (b : List Int) (hb : ∀ x ∈ b, 0 ≤ x ∧ x < 256) (lb : b.length ≤ 1000000) (n i : Int) (at_ m : Nat) (out : List ByteArray) (h0 : 0 ≤ i) (hi : i < n) (hn : n < 4294967296) (h4 : at_ + 4 ≤ b.length) (ho : out.length ≤ at_)
    (hm : num b at_ = m) (hk : ¬ (m : Int) > (b.length : Int) - ((at_ + 4 : Nat) : Int)) (k : Nat) :
    code_Decode.l0 (k + 1) b (at_ : Int) n i out = code_Decode.l0 k b ((at_ + 4 + m : Nat) : Int) n (i + 1) (out ++ [strOfNums (((b.drop at_).drop 4).take m)]) := by
  have hg := Get_yes b hb (by omega) at_ h4
  rw [hm] at hg
  have e4 : wrap64 ((at_ : Int) + 4) = ((at_ + 4 : Nat) : Int) := by unfold wrap64; omega
  have el : wrap64 ((b.length : Int) - ((at_ + 4 : Nat) : Int)) = (b.length : Int) - ((at_ + 4 : Nat) : Int) := wrap64_small (by omega) (by omega)
  have es : wrap64 (((at_ + 4 : Nat) : Int) + (m : Int)) = ((at_ + 4 + m : Nat) : Int) := by unfold wrap64; omega
  have ei : wrap64 (i + 1) = i + 1 := wrap64_small (by omega) (by omega)
  have ecut : (b.take (at_ + 4 + m)).drop (at_ + 4) = ((b.drop at_).drop 4).take m := by
    rw [List.drop_take, List.drop_drop, show at_ + 4 + m - (at_ + 4) = m from by omega]
  have c3 : ((at_ + 4 : Nat) : Int) ≤ ((at_ + 4 + m : Nat) : Int) := by omega
  have c4 : ((at_ + 4 + m : Nat) : Int) ≤ (b.length : Int) := by omega
  have c5 : out.length < 8796093022208 := by omega
  simp only [code_Decode.l0]
  rw [if_pos hi, hg]
  simp only [Option.bind_some, e4, el, if_neg hk, if_true, es, if_pos (Int.natCast_nonneg (at_ + 4)), if_pos c3, if_pos c4, if_pos c5, Int.toNat_natCast, ecut, ei]
theorem dec_step (b : List Int) (at_ m d : Nat) (h4 : at_ + 4 ≤ b.length) (hm : num b at_ = m) (hk : ¬ (m : Int) > (b.length : Int) - ((at_ + 4 : Nat) : Int)) :
    dec (d + 1) (b.drop at_) = (dec d (b.drop (at_ + 4 + m))).map fun l => strOfNums (((b.drop at_).drop 4).take m) :: l := by
  have hdl : (b.drop at_).length = b.length - at_ := List.length_drop
  have hnd : num (b.drop at_) 0 = (m : Int) := (num_drop b at_ 0).trans hm
  have hdd : (b.drop at_).drop (4 + m) = b.drop (at_ + 4 + m) := by rw [List.drop_drop, Nat.add_assoc]
  have hd1 : ¬ (b.drop at_).length < 4 := by omega
  have hd2 : ¬ (m : Int) > ((b.drop at_).length : Int) - 4 := by omega
  rw [dec, if_neg hd1, hnd, if_neg hd2, Int.toNat_natCast, hdd]
theorem Decode_l0 (b : List Int) (hb : ∀ x ∈ b, 0 ≤ x ∧ x < 256) (lb : b.length ≤ 1000000) (n : Int) (hn : n < 4294967296) (d : Nat) : ∀ (i : Int) (at_ : Nat) (out : List ByteArray), 0 ≤ i → i + d = n → at_ ≤ b.length → out.length ≤ at_ →
    Ev (fun k => code_Decode.l0 k b (at_ : Int) n i out) (got out (dec d (b.drop at_))) := by
  induction d with
  | zero =>
    intro i at_ out h0 hi hat ho
    refine Ev.step (f := fun _ => some (got out (dec 0 (b.drop at_)))) (fun k => ?_) (Ev.now _)
    rcases Decode_end b n i at_ out (by omega) k with h | h
    · exact h
    · omega
  | succ d ih =>
    intro i at_ out h0 hi hat ho
    have hin : i < n := by omega
    have hi1 : i + 1 + (d : Int) = n := by omega
    by_cases h4 : at_ + 4 ≤ b.length
    · by_cases hk : num b at_ > (b.length : Int) - ((at_ + 4 : Nat) : Int)
      · exact Ev.step (f := fun _ => some (got out (dec (d + 1) (b.drop at_)))) (fun k => Decode_far b hb lb n i at_ out hin h4 hk d k) (Ev.now _)
      · have hr := num_range b hb at_
        obtain ⟨m, hm⟩ : ∃ m : Nat, num b at_ = m := ⟨(num b at_).toNat, by omega⟩
        rw [hm] at hk
        have hlo : (out ++ [strOfNums (((b.drop at_).drop 4).take m)]).length ≤ at_ + 4 + m := by rw [List.length_append, List.length_singleton]; omega
        have hat2 : at_ + 4 + m ≤ b.length := by omega
        rw [dec_step b at_ m d h4 hm hk, got_map]
        exact Ev.step (Decode_step b hb lb n i at_ m out h0 hin hn h4 ho hm hk) (ih (i + 1) (at_ + 4 + m) _ (by omega) hi1 hat2 hlo)
    · exact Ev.step (f := fun _ => some (got out (dec (d + 1) (b.drop at_)))) (fun k => Decode_no b lb n i at_ out hin (by omega) d k) (Ev.now _)
theorem Decode_ev (b : List Int) (hb : ∀ x ∈ b, 0 ≤ x ∧ x < 256) (lb : b.length ≤ 1000000) : Ev (fun k => code_Decode.f k b) (Dec b) := by
  unfold code_Decode.f Dec
  by_cases h4 : b.length < 4
  · have hg := Get_no b (by omega) 0 (.inr (by omega))
    rw [if_pos h4, hg]
    simp only [Option.bind_some, Bool.false_eq_true, if_false]
    exact Ev.now _
  · have hg := Get_yes b hb (by omega) 0 (by omega)
    have hr := num_range b hb 0
    rw [if_neg h4, show (0 : Int) = ((0 : Nat) : Int) from rfl, hg]
    simp only [Option.bind_some, if_true]
    have ew : wrap64 ((b.length : Int) / 4) = (b.length : Int) / 4 := wrap64_small (by omega) (by omega)
    rw [ew]
    by_cases hn : num b 0 > (b.length : Int) / 4
    · simp only [if_pos hn]
      rw [dec_short _ _ (range_drop hb 4) (by rw [List.length_drop]; omega)]
      exact Ev.now _
    · simp only [if_neg hn]
      have := Decode_l0 b hb lb (num b 0) hr.2 (num b 0).toNat 0 4 [] (by omega) (by omega) (by omega) (by simp)
      simpa using this
theorem strOf_append (a b : List Int) : strOfNums (a ++ b) = strOfNums a ++ strOfNums b := by
  apply ByteArray.ext
  apply Array.toList_inj.1
  rw [strOfNums_data, ByteArray.data_append, Array.toList_append, strOfNums_data, strOfNums_data, List.map_append]
theorem strOf_size (a : List Int) : (strOfNums a).size = a.length := by
  rw [← data_length, strOfNums_data, List.length_map]
theorem enc_drop (l : List ByteArray) : (enc l).drop 4 = items l := by rw [enc, ← u32_length (l.length : Int), List.drop_left]
theorem enc_num (l : List ByteArray) (h : l.length < 4294967296) : num (enc l) 0 = (l.length : Int) := by
  rw [enc, num_left _ _ 0 (by rw [u32_length]; omega), num_u32 _ (by omega) (by omega)]
theorem j0_true (a b : List ByteArray) : Ev (fun k => aquiferlaw2_CodeJoins.j0 k a b true) true := by
  refine Ev.step (fun k => ?_) awake_ev
  simp only [aquiferlaw2_CodeJoins.j0, if_true]
  cases aquiferlaw2_awake.f k <;> rfl
theorem j1_ev (a b : List ByteArray) (ha : tot a ≤ 5000) (hb : tot b ≤ 5000) : Ev (fun k => aquiferlaw2_CodeJoins.j1 k a b (enc a) (enc b) (enc (a ++ b)) false) true := by
  have i1 := items_le a
  have i2 := items_le b
  have i3 := items_le (a ++ b)
  have t1 := len_le_tot a
  have t2 := len_le_tot b
  have t3 := tot_append a b
  have t4 := len_le_tot (a ++ b)
  have e1 := enc_length a
  have e2 := enc_length b
  have e3 := enc_length (a ++ b)
  have s1 := size_le_tot (a ++ b)
  have d1 := Decode_ev (enc (a ++ b)) (enc_range _) (by omega)
  have hd := Dec_enc [] (a ++ b) (by omega) (fun s hs => by have := s1 s hs; omega)
  rw [List.append_nil, if_pos List.length_nil] at hd
  rw [hd] at d1
  have hg := Get_yes (enc (a ++ b)) (enc_range _) (by omega) 0 (by omega)
  rw [enc_num _ (by omega)] at hg
  have ew : wrap64 ((a.length : Int) + (b.length : Int)) = (a.length : Int) + (b.length : Int) := wrap64_small (by omega) (by omega)
  have el : ((a ++ b).length : Int) = (a.length : Int) + (b.length : Int) := by rw [List.length_append]; omega
  have c1 : (4 : Int) ≤ ((enc (a ++ b)).length : Int) := by omega
  have c2 : (4 : Int) ≤ ((enc a).length : Int) := by omega
  have c3 : (4 : Int) ≤ ((enc b).length : Int) := by omega
  have c4 : (strOfNums (items a)).size + (strOfNums (items b)).size ≤ 9223372036854775807 := by rw [strOf_size, strOf_size]; omega
  have c5 : (strOfNums (items (a ++ b))).toList = (strOfNums (items a) ++ strOfNums (items b)).toList := by rw [items_append, strOf_append]
  refine Ev.step (f := fun k => (code_Decode.f k (enc (a ++ b))).bind fun bt151 => (aquiferlaw1_Num.f bt151.2).bind fun t167 => (if t167 = 0 then (if (bt151.1.length : Int) = ((a ++ b).length : Int) then ((aquiferlaw2_awake.f k).bind fun t168 => (some t168)) else (some false)) else (some false))) (fun k => ?_) ?_
  · simp only [aquiferlaw2_CodeJoins.j1, Bool.false_eq_true, if_false]
    rw [show (0 : Int) = ((0 : Nat) : Int) from rfl, hg]
    simp only [Option.bind_some, if_true, ew, if_pos el, if_pos c1, if_pos c2, if_pos c3, enc_drop, if_pos c4, if_pos c5]
  · refine Ev.bind d1 ?_
    simp only [aquiferlaw1_Num.f, Option.bind_some, if_true]
    exact Ev.bind awake_ev (Ev.now _)
theorem j0_false (a b : List ByteArray) (ha : tot a ≤ 5000) (hb : tot b ≤ 5000) : Ev (fun k => aquiferlaw2_CodeJoins.j0 k a b false) true := by
  have t1 := len_le_tot a
  have t2 := len_le_tot b
  have t3 := tot_append a b
  have e1 := enc_length a
  have e2 := enc_length b
  have e3 := enc_length (a ++ b)
  have c1 : ([] : List ByteArray).length + a.length < 8796093022208 := by rw [List.length_nil]; omega
  have c2 : a.length + b.length < 8796093022208 := by omega
  refine Ev.step (f := fun k => (code_Encode.f k a).bind fun t140 => (code_Encode.f k b).bind fun t143 => (code_Encode.f k (a ++ b)).bind fun t146 => (if (t140.length : Int) < 4 then (aquiferlaw2_CodeJoins.j1 k a b t140 t143 t146 true) else (if (t143.length : Int) < 4 then (aquiferlaw2_CodeJoins.j1 k a b t140 t143 t146 true) else (aquiferlaw2_CodeJoins.j1 k a b t140 t143 t146 (decide ((t146.length : Int) < 4)))))) (fun k => ?_) ?_
  · rw [aquiferlaw2_CodeJoins.j0, if_neg (by decide), Option.bind_some, if_pos c1, Option.bind_some, List.nil_append, if_pos c2]
  · refine Ev.bind (Encode_ev a (by omega)) (Ev.bind (Encode_ev b (by omega)) (Ev.bind (Encode_ev (a ++ b) (by omega)) ?_))
    have n1 : ¬ ((enc a).length : Int) < 4 := by omega
    have n2 : ¬ ((enc b).length : Int) < 4 := by omega
    have n3 : decide (((enc (a ++ b)).length : Int) < 4) = false := decide_eq_false (by omega)
    simp only [if_neg n1, if_neg n2, n3]
    exact j1_ev a b ha hb
end CodeJoinsP
open CodeJoinsP
theorem CodeJoins : aquiferlaw2_CodeJoins.Pure := by
  intro a b hla hlb
  refine Ev.rounds ?_
  unfold aquiferlaw2_CodeJoins.f
  refine Ev.bind (Great_ev a hla) ?_
  by_cases h1 : tot a > 5000
  · rw [decide_eq_true h1]
    simp only [if_true]
    exact j0_true a b
  · rw [decide_eq_false h1]
    simp only [Bool.false_eq_true, if_false]
    refine Ev.bind (Great_ev b hlb) ?_
    by_cases h2 : tot b > 5000
    · rw [decide_eq_true h2]
      exact j0_true a b
    · rw [decide_eq_false h2]
      exact j0_false a b (by omega) (by omega)
end Go.Proofs.Ytcjkhhdanpkjnaa.Pure
