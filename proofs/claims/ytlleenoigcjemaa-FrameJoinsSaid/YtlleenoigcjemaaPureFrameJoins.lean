/- The statement FrameJoins over numbers and lists: behind records that are whole, what stands there is told as if it stood alone. No further condition. -/
import Derived.Test.YtlleenoigcjemaaQFrameJoinsx2
import Derived.Test.YtlleenoigcjemaaFrm
import Derived.Test.YtlleenoigcjemaaCode
namespace Go.Proofs.Ytlleenoigcjemaa.Pure
open Go.RowKit Go.Proofs.Ytlleenoigcjemaa.QFrameJoins Go.Proofs.Ytlleenoigcjemaa.Num Go.Proofs.Ytlleenoigcjemaa.Frm Go.Proofs.YtlleenoigcjemaaW.PrintWords Go.Proofs.YtlleenoigcjemaaW.PrintLast
open Go.Proofs.Ytlleenoigcjemaa.Crc hiding wf_u8 wf_u16 wf_u32 wf_i64 wrap64_small
open Go.Proofs.Ytlleenoigcjemaa.Code (num_drop)
namespace FrameJoinsP
theorem More_l1 (l : List Int) (n x : Int) (r : Int) (d : Nat) : ∀ (c : Nat) (i : Int), c < 2 ^ 32 → i + d = 8 → 0 ≤ i →
    Ev (fun k => sum_More.l0 k ((csteps d c : Nat) : Int) l n (wrap64 (x + 1))) r → Ev (fun k => sum_More.l1 k (c : Int) l n x i) r := by
  induction d with
  | zero =>
    intro c i hc hi h0 h
    refine Ev.step (fun k => ?_) h
    simp only [sum_More.l1]
    rw [if_neg (by omega)]
    rfl
  | succ d ih =>
    intro c i hc hi h0 h
    refine Ev.step (fun k => ?_) (ih (cstep c) (i + 1) (cstep_lt hc) (by omega) (by omega) h)
    simp only [sum_More.l1]
    rw [if_pos (by omega), bits_and1_u32 hc, wrap64_small (by omega) (by omega)]
    by_cases ho : c % 2 = 1
    · rw [if_pos (by omega), cstep_odd ho, ← bits_xor_u32 (by omega) (by decide)]
      rfl
    · rw [if_neg (by omega), cstep_even ho]
      rfl
theorem More_l0 (l : List Int) (hn : l.length ≤ 140737488351232) (b : List Nat) : ∀ (i : Nat) (c : Nat), (∀ x ∈ b, x < 256) → c < 2 ^ 32 → i ≤ l.length → l.drop i = b.map Int.ofNat →
    Ev (fun k => sum_More.l0 k (c : Int) l (l.length : Int) (i : Int)) ((crc c b ^^^ 4294967295 : Nat) : Int) := by
  induction b with
  | nil =>
    intro i c hb hc hi hd
    have hi2 := drop_nil hd
    refine Ev.step (f := fun _ => some ((crc c [] ^^^ 4294967295 : Nat) : Int)) (fun k => ?_) (Ev.now _)
    simp only [sum_More.l0]
    have h1 := bits_xor_u32 hc (b := 4294967295) (by decide)
    have h2 := Nat.xor_lt_two_pow (n := 32) hc (y := 4294967295) (by decide)
    rw [if_neg (by omega), show (4294967295 : Int) = ((4294967295 : Nat) : Int) from rfl, h1, wrap64_small (by omega) (by omega)]
    rfl
  | cons x b ih =>
    intro i c hb hc hi hd
    obtain ⟨hlt, hx, ht⟩ := drop_cons hd
    have hx256 : x < 256 := hb x (by simp)
    have hcx : c ^^^ x < 2 ^ 32 := Nat.xor_lt_two_pow hc (by omega)
    have hrd : rd l (i : Int) = (x : Int) := by simp [rd, List.getD_eq_getElem?_getD, hx]
    refine Ev.step (fun k => ?_) (More_l1 l (l.length : Int) i _ 8 (c ^^^ x) 0 hcx (by omega) (by omega) (by
      rw [wrap64_small (by omega) (by omega)]
      exact ih (i + 1) (csteps 8 (c ^^^ x)) (fun y hy => hb y (List.mem_cons_of_mem _ hy)) (csteps_lt hcx) (by omega) ht))
    simp only [sum_More.l0]
    rw [if_pos (by omega), if_pos (by omega), if_pos (by omega), hrd, Int.emod_eq_of_lt (by omega) (by omega), bits_xor_u32 hc (by omega)]
theorem More_ev (b : List Nat) (hb : ∀ x ∈ b, x < 256) (hn : b.length ≤ 140737488351232) (s : Nat) (hs : s < 2 ^ 32) :
    Ev (fun k => sum_More.f k (s : Int) (b.map Int.ofNat)) ((crc (s ^^^ 4294967295) b ^^^ 4294967295 : Nat) : Int) := by
  have h := More_l0 (b.map Int.ofNat) (by simpa using hn) b 0 (s ^^^ 4294967295) hb (Nat.xor_lt_two_pow hs (by decide)) (by omega) rfl
  unfold sum_More.f
  rw [show (4294967295 : Int) = ((4294967295 : Nat) : Int) from rfl, Int.emod_eq_of_lt (by omega) (by omega), bits_xor_u32 hs (by decide)]
  exact h
theorem More_ev_any (b : List Nat) (hb : ∀ x ∈ b, x < 256) (hn : b.length ≤ 140737488351232) (s : Int) :
    Ev (fun k => sum_More.f k s (b.map Int.ofNat)) ((crc ((s % 4294967296).toNat ^^^ 4294967295) b ^^^ 4294967295 : Nat) : Int) := by
  have hs : (s % 4294967296).toNat < 2 ^ 32 := by omega
  have h := More_l0 (b.map Int.ofNat) (by simpa using hn) b 0 ((s % 4294967296).toNat ^^^ 4294967295) hb (Nat.xor_lt_two_pow hs (by decide)) (by omega) rfl
  unfold sum_More.f
  rw [show (4294967295 : Int) = ((4294967295 : Nat) : Int) from rfl, show s % 4294967296 = (((s % 4294967296).toNat : Nat) : Int) from by omega, bits_xor_u32 hs (by decide)]
  exact h
/-- The sum of bytes. -/
def sumN (b : List Nat) : Nat := crc 4294967295 b ^^^ 4294967295
theorem sumN_lt (b : List Nat) (hb : ∀ x ∈ b, x < 256) : sumN b < 2 ^ 32 := Nat.xor_lt_two_pow (crc_lt (by decide) hb) (by decide)
theorem Sum_ev (b : List Nat) (hb : ∀ x ∈ b, x < 256) (hn : b.length ≤ 140737488351232) : Ev (fun k => sum_Sum.f k (b.map Int.ofNat)) ((sumN b : Nat) : Int) := by
  unfold sum_Sum.f
  refine Ev.bind (More_ev b hb hn 0 (by decide)) ?_
  exact Ev.now _
theorem U32_f (n : Int) : code_U32.f n = some (u32 n) := rfl
theorem Get_yes (l : List Int) (h : ∀ x ∈ l, 0 ≤ x ∧ x < 256) (hn : l.length ≤ 1407374883551232) (i : Nat) (hi : i + 4 ≤ l.length) : code_Get.f l (i : Int) = some (num l i, true) := by
  have h0 := byte_getD l h i
  have h1 := byte_getD l h (i + 1)
  have h2 := byte_getD l h (i + 2)
  have h3 := byte_getD l h (i + 3)
  have e1 : wrap64 ((i : Int) + 1) = ((i + 1 : Nat) : Int) := by unfold wrap64; omega
  have e2 : wrap64 ((i : Int) + 2) = ((i + 2 : Nat) : Int) := by unfold wrap64; omega
  have e3 : wrap64 ((i : Int) + 3) = ((i + 3 : Nat) : Int) := by unfold wrap64; omega
  have e4 : wrap64 ((l.length : Int) - 4) = (l.length : Int) - 4 := by unfold wrap64; omega
  have r : ∀ j : Nat, rd l (j : Int) = l.getD j 0 := fun j => by simp [rd]
  unfold code_Get.f
  rw [e1, e2, e3, e4, if_neg (by omega), if_neg (by omega), if_neg (by omega), if_pos (by omega), if_pos (by omega), if_pos (by omega), if_pos (by omega), if_pos (by omega), if_pos (by omega), if_pos (by omega), if_pos (by omega), r, r, r, r]
  rw [or4 _ _ _ _ h0.1 h0.2 h1.1 h1.2 h2.1 h2.2 h3.1 h3.2]
  rfl
theorem Get_no (l : List Int) (hn : l.length ≤ 1407374883551232) (i : Int) (hi : i < 0 ∨ (l.length : Int) < i + 4) : code_Get.f l i = some (0, false) := by
  unfold code_Get.f
  have e4 : wrap64 ((l.length : Int) - 4) = (l.length : Int) - 4 := by unfold wrap64; omega
  rw [e4]
  by_cases h1 : i < 0
  · rw [if_pos h1]
  · rw [if_neg h1]
    by_cases h2 : (l.length : Int) < 4
    · rw [if_pos h2]
    · rw [if_neg h2, if_pos (by omega)]
theorem Sum_evI {l : List Int} (h : ∀ x ∈ l, 0 ≤ x ∧ x < 256) (hn : l.length ≤ 140737488351232) : Ev (fun k => sum_Sum.f k l) (sumI l) := by
  have := Sum_ev (l.map Int.toNat) (toNat_range h) (by rw [List.length_map]; exact hn)
  rw [toNat_back h] at this
  exact this
theorem Frame_ev {p : List Int} (h : ∀ x ∈ p, 0 ≤ x ∧ x < 256) (hn : p.length ≤ 1048576) : Ev (fun k => frame_Frame.f k p) (frm p, 0) := by
  unfold frame_Frame.f
  simp only [if_neg (show ¬ ((p.length : Int) > 1048576) by omega), U32_f, Option.bind_some]
  exact Ev.bind (Sum_evI h (by omega)) (Ev.now _)
theorem w64 (n : Nat) (h : n ≤ 9223372036854775807) : wrap64 (n : Int) = (n : Int) := wrap64_small (by omega) (by omega)
theorem Scan_l0 (b : List Int) (hb : ∀ x ∈ b, 0 ≤ x ∧ x < 256) (hn : b.length ≤ 5864062014804) (d : Nat) : ∀ (g : Nat) (l : List (List Int)), b.length - g = d → g ≤ b.length → l.length ≤ g →
    Ev (fun k => frame_Scan.l0 k b l (g : Int)) (l ++ (scan (b.drop g)).1, ((g + (scan (b.drop g)).2 : Nat) : Int)) := by
  induction d using Nat.strongRecOn with
  | _ d ih =>
    intro g l hd hg hl
    have hdr : ∀ x ∈ b.drop g, 0 ≤ x ∧ x < 256 := fun x hx => hb x (List.mem_of_mem_drop hx)
    have hdl : (b.drop g).length = b.length - g := List.length_drop
    have e4 : wrap64 ((g : Int) + 4) = ((g + 4 : Nat) : Int) := wrap64_small (by omega) (by omega)
    have e8 : wrap64 ((g : Int) + 8) = ((g + 8 : Nat) : Int) := wrap64_small (by omega) (by omega)
    have er : wrap64 (wrap64 ((b.length : Int) - (g : Int)) - 8) = (b.length : Int) - g - 8 := w_room _ _ hg hn
    have stop : ∀ x4 x6 : Int, Ev (fun k => frame_Scan.j1 k b l (g : Int) x4 x6 true) (l, (g : Int)) := fun x4 x6 =>
      Ev.step (f := fun _ => some (l, (g : Int))) (fun k => by simp only [frame_Scan.j1, if_true]) (Ev.now _)
    by_cases h8 : b.length < g + 8
    · have ho : one (b.drop g) = none := by unfold one; rw [if_pos (by omega)]
      rw [scan_none ho]
      simp only [List.append_nil, Nat.add_zero]
      by_cases h4 : g + 4 ≤ b.length
      · refine Ev.step (f := fun k => frame_Scan.j1 k b l (g : Int) (num b g) 0 true) (fun k => ?_) (stop _ _)
        simp only [frame_Scan.l0]
        rw [Get_yes b hb (by omega) g h4, e4, Get_no b (by omega) _ (.inr (by omega))]
        simp
      · refine Ev.step (f := fun k => frame_Scan.j1 k b l (g : Int) 0 0 true) (fun k => ?_) (stop _ _)
        simp only [frame_Scan.l0]
        rw [Get_no b (by omega) _ (.inr (by omega)), e4, Get_no b (by omega) _ (.inr (by omega))]
        simp
    · have n0 : num (b.drop g) 0 = num b g := by rw [num_drop]; rfl
      have n4 : num (b.drop g) 4 = num b (g + 4) := num_drop _ _ _
      have hr0 := num_range b hb g
      have enter : ∀ k, frame_Scan.l0 (k + 1) b l (g : Int) = frame_Scan.j1 k b l (g : Int) (num b g) (num b (g + 4)) (decide (num b g > 1048576 ∨ num b g > (b.length : Int) - g - 8)) := by
        intro k
        simp only [frame_Scan.l0]
        rw [Get_yes b hb (by omega) g (by omega), e4, Get_yes b hb (by omega) (g + 4) (by omega)]
        simp only [Option.bind_some, if_true, er]
        by_cases hc : num b g > 1048576
        · rw [if_pos hc, decide_eq_true (Or.inl hc)]
        · rw [if_neg hc]
          congr 1
          simp [hc]
      by_cases hc : num b g > 1048576 ∨ num b g > (b.length : Int) - g - 8
      · have ho : one (b.drop g) = none := by unfold one; rw [if_neg (by omega), n0, hdl, if_pos (by omega)]
        rw [scan_none ho]
        simp only [List.append_nil, Nat.add_zero]
        exact Ev.step (fun k => (enter k).trans (by rw [decide_eq_true hc])) (stop _ _)
      · obtain ⟨n, hnn⟩ := Int.eq_ofNat_of_zero_le hr0.1
        have hp : ((b.drop g).drop 8).take (num (b.drop g) 0).toNat = (b.take (g + 8 + n)).drop (g + 8) := by
          rw [n0, hnn, List.drop_drop, List.drop_take, show g + 8 + n - (g + 8) = n by omega]; rfl
        have hpr : ∀ x ∈ (b.take (g + 8 + n)).drop (g + 8), 0 ≤ x ∧ x < 256 := fun x hx => hb x (List.mem_of_mem_take (List.mem_of_mem_drop hx))
        have hpl : ((b.take (g + 8 + n)).drop (g + 8)).length = n := by rw [List.length_drop, List.length_take]; omega
        have hn0 : num b g = (n : Int) := hnn
        have hn1 : n ≤ 1048576 := by omega
        have hn2 : g + 8 + n ≤ b.length := by omega
        have e1 : wrap64 (((g + 8 : Nat) : Int) + (n : Int)) = ((g + 8 + n : Nat) : Int) := w_on (g + 8) n (Nat.le_trans hn2 hn)
        have e2 : wrap64 ((g : Int) + wrap64 (8 + (n : Int))) = ((g + 8 + n : Nat) : Int) := w_frame g n (Nat.le_trans hn2 hn)
        have c1 : (0 : Int) ≤ ((g + 8 : Nat) : Int) := Int.natCast_nonneg _
        have c2 : ((g + 8 : Nat) : Int) ≤ ((g + 8 + n : Nat) : Int) := Int.ofNat_le.2 (Nat.le_add_right _ _)
        have c3 : ((g + 8 + n : Nat) : Int) ≤ (b.length : Int) := Int.ofNat_le.2 hn2
        have c4 : ((b.take (g + 8 + n)).drop (g + 8)).length < 140737488355328 := by rw [hpl]; exact Nat.lt_of_le_of_lt hn1 (by decide)
        have c5 : l.length < 5864062014805 := Nat.lt_of_le_of_lt (Nat.le_trans hl hg) (Nat.lt_succ_of_le hn)
        have hpb : ((b.take (g + 8 + n)).drop (g + 8)).length ≤ 140737488351232 := by rw [hpl]; exact Nat.le_trans hn1 (by decide)
        have h8' : ¬ (b.drop g).length < 8 := by rw [hdl]; exact no8 h8
        have hc' : ¬ (num b g > 1048576 ∨ num b g > ((b.length - g : Nat) : Int) - 8) := by rw [Int.ofNat_sub hg]; exact hc
        have hln : (l ++ [(b.take (g + 8 + n)).drop (g + 8)]).length ≤ g + 8 + n := by rw [List.length_append]; exact (steps_on hd hn2 hl).1
        have hlt' : b.length - (g + 8 + n) < d := (steps_on hd hn2 hl).2
        refine Ev.step (f := fun k => frame_Scan.j1 k b l (g : Int) (n : Int) (num b (g + 4)) false) (fun k => (enter k).trans (by rw [decide_eq_false hc, hnn])) ?_
        refine Ev.step (f := fun k => (sum_Sum.f k ((b.take (g + 8 + n)).drop (g + 8))).bind fun t116 => if t116 = num b (g + 4) then frame_Scan.l0 k b (l ++ [(b.take (g + 8 + n)).drop (g + 8)]) ((g + 8 + n : Nat) : Int) else some (l, (g : Int))) (fun k => ?_) ?_
        · simp only [frame_Scan.j1, Bool.false_eq_true, if_false]
          simp only [e8, e1, e2, if_pos c1, if_pos c2, if_pos c3, Int.toNat_natCast, slices_Clone_byte_byte.f, if_pos c4, if_pos c5, Option.bind_some]
        · refine Ev.bind (Sum_evI hpr hpb) ?_
          by_cases hs : sumI ((b.take (g + 8 + n)).drop (g + 8)) = num b (g + 4)
          · have ho : one (b.drop g) = some ((b.take (g + 8 + n)).drop (g + 8)) := by
              unfold one; rw [if_neg h8', hp, n0, hdl, if_neg hc', n4, if_pos hs]
            simp only [if_pos hs]
            rw [scan_some hdr ho, hpl, List.drop_drop]
            have := ih (b.length - (g + 8 + n)) hlt' (g + 8 + n) (l ++ [(b.take (g + 8 + n)).drop (g + 8)]) rfl hn2 hln
            rw [List.append_assoc] at this
            rw [← Nat.add_assoc g 8 n, sum_on]
            exact this
          · have ho : one (b.drop g) = none := by
              unfold one; rw [if_neg h8', hp, n0, hdl, if_neg hc', n4, if_neg hs]
            simp only [if_neg hs]
            rw [scan_none ho]
            simp only [List.append_nil, Nat.add_zero]
            exact Ev.now _
theorem Scan_ev {b : List Int} (hb : ∀ x ∈ b, 0 ≤ x ∧ x < 256) (hn : b.length ≤ 5864062014804) : Ev (fun k => frame_Scan.f k b) ((scan b).1, ((scan b).2 : Int)) := by
  have := Scan_l0 b hb hn _ 0 [] rfl (by omega) (by simp)
  unfold frame_Scan.f
  simpa using this
theorem awake4_ev : Ev (fun k => aquiferlaw4_awake.f k) true := by
  have h0 : ∀ x ∈ List.replicate 7 (0 : Int), 0 ≤ x ∧ x < 256 := by decide
  have h1 : ∀ x ∈ ([120] : List Int), 0 ≤ x ∧ x < 256 := by decide
  have s0 : scan (List.replicate 7 (0 : Int)) = ([], 0) := scan_none (by unfold one; rw [if_pos (by decide)])
  have s1 : scan (frm [120]) = ([[120]], 9) := by
    have := scan_frm h1 (z := []) (by simp) (by decide)
    rw [List.append_nil] at this
    exact this
  have l1 : (frm [120]).length = 9 := frm_length _
  have e0 := Scan_ev h0 (by decide)
  have e1 := Frame_ev h1 (by decide)
  have e2 := Scan_ev (frm_range h1) (by rw [l1]; decide)
  rw [s0] at e0
  rw [s1] at e2
  unfold aquiferlaw4_awake.f
  simp only [if_pos (show (7 : Nat) ≤ 281474976710656 by decide)]
  refine Ev.bind e0 (Ev.bind e1 (Ev.bind e2 ?_))
  simp only [List.length_nil, List.length_cons, l1, aquiferlaw1_Num.f, Option.bind_some]
  exact Ev.now _
theorem Same_l0 (l : List (List Int)) (hl : l.length ≤ 5864062014805) (d : Nat) : ∀ i : Nat, l.length - i = d → i ≤ l.length → Ev (fun k => aquiferlaw4_same.l0 k l l (i : Int)) true := by
  induction d with
  | zero =>
    intro i hd hi
    refine Ev.step (f := fun _ => some true) (fun k => ?_) (Ev.now _)
    simp only [aquiferlaw4_same.l0]
    rw [if_neg (by omega)]
  | succ d ih =>
    intro i hd hi
    refine Ev.step (fun k => ?_) (ih (i + 1) (by omega) (by omega))
    simp only [aquiferlaw4_same.l0]
    rw [if_pos (by omega), if_pos (by omega), if_pos (by omega), wrap64_small (by omega) (by omega)]
    rfl
theorem Same_ev (l : List (List Int)) (hl : l.length ≤ 5864062014805) : Ev (fun k => aquiferlaw4_same.f k l l) true := by
  unfold aquiferlaw4_same.f
  simp only [if_true]
  exact Same_l0 l hl _ 0 rfl (by omega)
theorem scan_len {b : List Int} (hb : ∀ x ∈ b, 0 ≤ x ∧ x < 256) : (scan b).1.length ≤ b.length := by
  generalize hn : b.length = n
  induction n using Nat.strongRecOn generalizing b with
  | _ n ih =>
    cases ho : one b with
    | none => rw [scan_none ho]; exact Nat.zero_le _
    | some p =>
      have hl := (one_length hb ho).1
      rw [scan_some hb ho]
      have := ih (b.length - (8 + p.length)) (by omega) (b := b.drop (8 + p.length)) (fun x hx => hb x (List.mem_of_mem_drop hx)) (by rw [List.length_drop])
      simp only [List.length_cons]
      omega
theorem lget {l : List (List Int)} {i : Nat} {s : List Int} {rest : List (List Int)} (h : l.drop i = s :: rest) : i < l.length ∧ rd_L1 l (i : Int) = s ∧ l.drop (i + 1) = rest := by
  obtain ⟨h1, h2, h3⟩ := Crc.drop_cons h
  exact ⟨h1, by simp [rd_L1, List.getD_eq_getElem?_getD, h2], h3⟩
theorem great_l0 (l : List (List Int)) (hn : l.length ≤ 1099511627776000) (rest : List (List Int)) : ∀ (i n : Nat), l.drop i = rest → i ≤ l.length → n ≤ 20000 →
    Ev (fun k => aquiferlaw4_great.l0 k l (n : Int) (i : Int)) (decide (n + ltot rest > 5000)) := by
  induction rest with
  | nil =>
    intro i n hd hi hn'
    have := List.drop_eq_nil_iff.1 hd
    refine Ev.step (f := fun _ => some (decide (n + ltot [] > 5000))) (fun k => ?_) (Ev.now _)
    simp only [aquiferlaw4_great.l0]
    rw [if_neg (by omega)]
    congr 1
    rw [ltot]
    simp
    omega
  | cons s rest ih =>
    intro i n hd hi hn'
    obtain ⟨hlt, hs, ht⟩ := lget hd
    have l1 : (i : Int) < (l.length : Int) := by omega
    by_cases h5 : n ≤ 5000
    · have hmn : wrap64 (wrap64 ((n : Int) + 1) + mn (s.length : Int) 5001) = ((n + 1 + min s.length 5001 : Nat) : Int) := by unfold mn wrap64; split <;> omega
      have e : (decide (n + ltot (s :: rest) > 5000)) = decide ((n + 1 + min s.length 5001) + ltot rest > 5000) := by
        rw [ltot, decide_eq_decide]; omega
      rw [e]
      refine Ev.step (fun k => ?_) (ih (i + 1) _ ht (by omega) (by omega))
      simp only [aquiferlaw4_great.l0]
      rw [if_pos l1, if_pos (by omega), if_pos (Int.natCast_nonneg _), hs, hmn, show wrap64 ((i : Int) + 1) = ((i + 1 : Nat) : Int) from by unfold wrap64; omega]
    · refine Ev.step (f := fun _ => some (decide (n + ltot (s :: rest) > 5000))) (fun k => ?_) (Ev.now _)
      simp only [aquiferlaw4_great.l0]
      rw [if_pos l1, if_neg (by omega)]
      congr 1
      rw [ltot, decide_eq_decide]
      omega
theorem great_ev (l : List (List Int)) (hn : l.length * 24 ≤ 140737488351232) : Ev (fun k => aquiferlaw4_great.f k l) (decide (ltot l > 5000)) := by
  unfold aquiferlaw4_great.f
  have := great_l0 l (by omega) l 0 0 rfl (by omega) (by omega)
  rw [Nat.zero_add] at this
  exact this
theorem scan_count {b : List Int} (hb : ∀ x ∈ b, 0 ≤ x ∧ x < 256) : (scan b).1.length ≤ b.length := by
  generalize hn : b.length = n
  induction n using Nat.strongRecOn generalizing b with
  | _ n ih =>
    cases ho : one b with
    | none => rw [scan_none ho]; exact Nat.zero_le _
    | some p =>
      have hl := (one_length hb ho).1
      rw [scan_some hb ho]
      have := ih (b.length - (8 + p.length)) (by omega) (b := b.drop (8 + p.length)) (fun x hx => hb x (List.mem_of_mem_drop hx)) (by rw [List.length_drop])
      show (_ :: _).length ≤ _
      rw [List.length_cons]
      omega
theorem last_ev (l : List (List Int)) (b : List Int) (hr : ∀ p ∈ l, ∀ x ∈ p, 0 ≤ x ∧ x < 256) (hb : ∀ x ∈ b, 0 ≤ x ∧ x < 256) (ht : ltot l ≤ 5000) (hbl : b.length ≤ 2000) :
    Ev (fun k => aquiferlaw4_FrameJoins.l0 k l b (frms l) (l.length : Int)) true := by
  have hlen := frms_le l
  have hll := len_le_ltot l
  have hcnt := scan_count hb
  have hle := scan_le hb
  have hbr : ∀ x ∈ frms l ++ b, 0 ≤ x ∧ x < 256 := fun x hx => (List.mem_append.1 hx).elim (frms_range hr x) (hb x)
  have hs := scan_frms hr hb (fun p hp => Nat.le_trans (part_le_ltot l p hp) (Nat.le_trans ht (by decide)))
  have hlt : (frms l ++ b).length ≤ 5864062014804 := by rw [List.length_append]; omega
  have sc1 := Scan_ev hbr hlt
  rw [hs] at sc1
  have sc2 := Scan_ev hb (Nat.le_trans hbl (by decide))
  have c0 : ¬ (l.length : Int) < (l.length : Int) := Int.lt_irrefl _
  have c1 : (frms l).length + b.length < 140737488355328 := by omega
  have c2 : ([] : List (List Int)).length + l.length < 5864062014805 := by rw [List.length_nil]; omega
  have c3 : l.length + (scan b).1.length < 5864062014805 := by omega
  have ew : wrap64 (((frms l).length : Int) + ((scan b).2 : Int)) = (((frms l).length + (scan b).2 : Nat) : Int) := w_on _ _ (by omega)
  refine Ev.step (f := fun k => (frame_Scan.f k (frms l ++ b)).bind fun bt159 => (frame_Scan.f k b).bind fun bt163 => ((some (([] : List (List Int)) : List (List Int))).bind fun y167 => (if y167.length + l.length < 5864062014805 then ((some (y167 ++ l : List (List Int))).bind fun y170 => (if y170.length + bt163.1.length < 5864062014805 then ((aquiferlaw4_same.f k bt159.1 (y170 ++ bt163.1)).bind fun t176 => (if t176 = true then (if bt159.2 = (wrap64 (((frms l).length : Int) + bt163.2)) then ((aquiferlaw4_awake.f k).bind fun t177 => (some t177)) else (some false)) else (some false))) else (none))) else (none)))) (fun k => ?_) ?_
  · rw [aquiferlaw4_FrameJoins.l0, if_neg c0, if_pos c1]
  · refine Ev.bind sc1 (Ev.bind sc2 ?_)
    refine Ev.congr (f := fun k => (aquiferlaw4_same.f k (l ++ (scan b).1) (l ++ (scan b).1)).bind fun t176 => (if t176 = true then (if (((frms l).length + (scan b).2 : Nat) : Int) = (((frms l).length + (scan b).2 : Nat) : Int) then ((aquiferlaw4_awake.f k).bind fun t177 => (some t177)) else (some false)) else (some false))) (fun k => ?_) ?_
    · rw [Option.bind_some, if_pos c2, Option.bind_some, List.nil_append, if_pos c3]
      show _ = _
      rw [ew]
    · refine Ev.bind (Same_ev _ (by rw [List.length_append]; omega)) ?_
      simp only [if_true]
      exact Ev.bind awake4_ev (Ev.now _)
theorem l0_ev (l : List (List Int)) (b : List Int) (hr : ∀ p ∈ l, ∀ x ∈ p, 0 ≤ x ∧ x < 256) (hb : ∀ x ∈ b, 0 ≤ x ∧ x < 256) (ht : ltot l ≤ 5000) (hbl : b.length ≤ 2000) (d : Nat) : ∀ i : Nat, l.length - i = d → i ≤ l.length →
    Ev (fun k => aquiferlaw4_FrameJoins.l0 k l b (frms (l.take i)) (i : Int)) true := by
  induction d with
  | zero =>
    intro i hd hi
    obtain rfl : i = l.length := by omega
    rw [List.take_length]
    exact last_ev l b hr hb ht hbl
  | succ d ih =>
    intro i hd hi
    have hlt : i < l.length := by omega
    have hin := ih (i + 1) (by omega) hlt
    have hll := len_le_ltot l
    obtain ⟨p, hp⟩ : ∃ p, l[i]? = some p := ⟨_, List.getElem?_eq_getElem hlt⟩
    have hmem := List.mem_of_getElem? hp
    have hrd : rd_L1 l (i : Int) = p := by simp [rd_L1, List.getD_eq_getElem?_getD, hp]
    have hpl := part_le_ltot l p hmem
    have hfr : frms (l.take i) ++ frm p = frms (l.take (i + 1)) := by
      rw [List.take_add_one, hp, frms_append]; simp [frms]
    have hlen := frms_le l
    have hsplit : frms l = frms (l.take (i + 1)) ++ frms (l.drop (i + 1)) := by rw [← frms_append, List.take_append_drop]
    have hup : (frms (l.take (i + 1))).length ≤ (frms l).length := by rw [hsplit, List.length_append]; omega
    have c1 : (frms (l.take i)).length + (frm p).length < 140737488355328 := by
      rw [← List.length_append, hfr]; exact Nat.lt_of_le_of_lt (Nat.le_trans hup hlen) (Nat.lt_of_le_of_lt (Nat.mul_le_mul_left 8 ht) (by decide))
    have e1 : wrap64 ((i : Int) + 1) = ((i + 1 : Nat) : Int) := wrap64_small (by omega) (by omega)
    refine Ev.step (f := fun k => (frame_Frame.f k p).bind fun bt148 => (aquiferlaw1_Num.f bt148.2).bind fun t152 => (if t152 = 0 then (if (frms (l.take i)).length + bt148.1.length < 140737488355328 then (aquiferlaw4_FrameJoins.l0 k l b (frms (l.take i) ++ bt148.1) ((i + 1 : Nat) : Int)) else none) else some false)) (fun k => ?_) ?_
    · rw [aquiferlaw4_FrameJoins.l0, if_pos (Int.ofNat_lt.2 hlt), if_pos (Int.natCast_nonneg _), hrd, e1]
    · refine Ev.bind (Frame_ev (hr p hmem) (Nat.le_trans hpl (Nat.le_trans ht (by decide)))) ?_
      refine Ev.congr (fun k => ?_) hin
      have hn : aquiferlaw1_Num.f 0 = some 0 := rfl
      show (aquiferlaw1_Num.f 0).bind _ = _
      rw [hn, Option.bind_some, if_pos rfl, if_pos c1, hfr]
theorem j0_true (l : List (List Int)) (b : List Int) : Ev (fun k => aquiferlaw4_FrameJoins.j0 k l b true) true := by
  refine Ev.step (f := fun k => (aquiferlaw4_awake.f k).bind fun t146 => some t146) (fun k => ?_) (Ev.bind awake4_ev (Ev.now _))
  rw [aquiferlaw4_FrameJoins.j0, if_pos rfl]
end FrameJoinsP
open FrameJoinsP
theorem FrameJoins : aquiferlaw4_FrameJoins.Pure := by
  intro l b hl wl hb1 hb2 wb
  have hr : ∀ p ∈ l, ∀ x ∈ p, 0 ≤ x ∧ x < 256 := fun p hp x hx => wf_u8 (wl p hp x hx)
  have hb : ∀ x ∈ b, 0 ≤ x ∧ x < 256 := fun x hx => wf_u8 (wb x hx)
  refine Ev.rounds ?_
  unfold aquiferlaw4_FrameJoins.f
  refine Ev.bind (great_ev l hl) ?_
  by_cases hg : ltot l > 5000
  · rw [decide_eq_true hg]
    simp only [if_true]
    exact j0_true l b
  · rw [decide_eq_false hg]
    simp only [Bool.false_eq_true, if_false]
    by_cases hq : b.length > 2000
    · rw [decide_eq_true (by omega : (b.length : Int) > 2000)]
      exact j0_true l b
    · rw [decide_eq_false (by omega : ¬ (b.length : Int) > 2000)]
      refine Ev.step (f := fun k => aquiferlaw4_FrameJoins.l0 k l b (frms (l.take 0)) ((0 : Nat) : Int)) (fun k => ?_) (l0_ev l b hr hb (by omega) (by omega) _ 0 rfl (Nat.zero_le _))
      rw [aquiferlaw4_FrameJoins.j0, if_neg (by decide)]
      rfl
end Go.Proofs.Ytlleenoigcjemaa.Pure
