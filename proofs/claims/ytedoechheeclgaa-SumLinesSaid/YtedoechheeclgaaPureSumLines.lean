/- The statement SumLines over numbers and lists: of three texts cut to one length of at most 2000, and of all three turned together, the sums turned together are one. No further condition. -/
import Derived.Test.YtedoechheeclgaaQSumLinesx2
import Derived.Test.YtedoechheeclgaaCrc
namespace Go.Proofs.Ytedoechheeclgaa.Pure
open Go.RowKit Go.Proofs.Ytedoechheeclgaa.QSumLines Go.Proofs.Ytedoechheeclgaa.Crc Go.Proofs.YtedoechheeclgaaW.PrintWords Go.Proofs.YtedoechheeclgaaW.PrintLast Go.Proofs.YtedoechheeclgaaW.PrintMore
namespace SumLinesP
theorem More_l1 (l : List Int) (n x : Int) (r : Int) (d : Nat) : ∀ (c : Nat) (i : Int), c < 2 ^ 32 → i + d = 8 → 0 ≤ i →
    Ev (fun k => sum_More.l0 k ((csteps d c : Nat) : Int) l n (wrap64 (x + 1))) r → Ev (fun k => sum_More.l1 k (c : Int) l n x i) r := by
  induction d with
  | zero =>
    intro c i hc hi h0 h
    refine Ev.step (fun k => ?_) h
    simp only [sum_More.l1]
    rw [if_neg (by omega)]
    rfl
  | succ d ih =>
    intro c i hc hi h0 h
    refine Ev.step (fun k => ?_) (ih (cstep c) (i + 1) (cstep_lt hc) (by omega) (by omega) h)
    simp only [sum_More.l1]
    rw [if_pos (by omega), bits_and1_u32 hc, wrap64_small (by omega) (by omega)]
    by_cases ho : c % 2 = 1
    · rw [if_pos (by omega), cstep_odd ho, ← bits_xor_u32 (by omega) (by decide)]
      rfl
    · rw [if_neg (by omega), cstep_even ho]
      rfl
theorem More_l0 (l : List Int) (hn : l.length ≤ 140737488351232) (b : List Nat) : ∀ (i : Nat) (c : Nat), (∀ x ∈ b, x < 256) → c < 2 ^ 32 → i ≤ l.length → l.drop i = b.map Int.ofNat →
    Ev (fun k => sum_More.l0 k (c : Int) l (l.length : Int) (i : Int)) ((crc c b ^^^ 4294967295 : Nat) : Int) := by
  induction b with
  | nil =>
    intro i c hb hc hi hd
    have hi2 := drop_nil hd
    refine Ev.step (f := fun _ => some ((crc c [] ^^^ 4294967295 : Nat) : Int)) (fun k => ?_) (Ev.now _)
    simp only [sum_More.l0]
    have h1 := bits_xor_u32 hc (b := 4294967295) (by decide)
    have h2 := Nat.xor_lt_two_pow (n := 32) hc (y := 4294967295) (by decide)
    rw [if_neg (by omega), show (4294967295 : Int) = ((4294967295 : Nat) : Int) from rfl, h1, wrap64_small (by omega) (by omega)]
    rfl
  | cons x b ih =>
    intro i c hb hc hi hd
    obtain ⟨hlt, hx, ht⟩ := drop_cons hd
    have hx256 : x < 256 := hb x (by simp)
    have hcx : c ^^^ x < 2 ^ 32 := Nat.xor_lt_two_pow hc (by omega)
    have hrd : rd l (i : Int) = (x : Int) := by simp [rd, List.getD_eq_getElem?_getD, hx]
    refine Ev.step (fun k => ?_) (More_l1 l (l.length : Int) i _ 8 (c ^^^ x) 0 hcx (by omega) (by omega) (by
      rw [wrap64_small (by omega) (by omega)]
      exact ih (i + 1) (csteps 8 (c ^^^ x)) (fun y hy => hb y (List.mem_cons_of_mem _ hy)) (csteps_lt hcx) (by omega) ht))
    simp only [sum_More.l0]
    rw [if_pos (by omega), if_pos (by omega), if_pos (by omega), hrd, Int.emod_eq_of_lt (by omega) (by omega), bits_xor_u32 hc (by omega)]
theorem More_ev (b : List Nat) (hb : ∀ x ∈ b, x < 256) (hn : b.length ≤ 140737488351232) (s : Nat) (hs : s < 2 ^ 32) :
    Ev (fun k => sum_More.f k (s : Int) (b.map Int.ofNat)) ((crc (s ^^^ 4294967295) b ^^^ 4294967295 : Nat) : Int) := by
  have h := More_l0 (b.map Int.ofNat) (by simpa using hn) b 0 (s ^^^ 4294967295) hb (Nat.xor_lt_two_pow hs (by decide)) (by omega) rfl
  unfold sum_More.f
  rw [show (4294967295 : Int) = ((4294967295 : Nat) : Int) from rfl, Int.emod_eq_of_lt (by omega) (by omega), bits_xor_u32 hs (by decide)]
  exact h
theorem More_ev_any (b : List Nat) (hb : ∀ x ∈ b, x < 256) (hn : b.length ≤ 140737488351232) (s : Int) :
    Ev (fun k => sum_More.f k s (b.map Int.ofNat)) ((crc ((s % 4294967296).toNat ^^^ 4294967295) b ^^^ 4294967295 : Nat) : Int) := by
  have hs : (s % 4294967296).toNat < 2 ^ 32 := by omega
  have h := More_l0 (b.map Int.ofNat) (by simpa using hn) b 0 ((s % 4294967296).toNat ^^^ 4294967295) hb (Nat.xor_lt_two_pow hs (by decide)) (by omega) rfl
  unfold sum_More.f
  rw [show (4294967295 : Int) = ((4294967295 : Nat) : Int) from rfl, show s % 4294967296 = (((s % 4294967296).toNat : Nat) : Int) from by omega, bits_xor_u32 hs (by decide)]
  exact h
/-- The sum of bytes. -/
def sumN (b : List Nat) : Nat := crc 4294967295 b ^^^ 4294967295
theorem sumN_lt (b : List Nat) (hb : ∀ x ∈ b, x < 256) : sumN b < 2 ^ 32 := Nat.xor_lt_two_pow (crc_lt (by decide) hb) (by decide)
theorem Sum_ev (b : List Nat) (hb : ∀ x ∈ b, x < 256) (hn : b.length ≤ 140737488351232) : Ev (fun k => sum_Sum.f k (b.map Int.ofNat)) ((sumN b : Nat) : Int) := by
  unfold sum_Sum.f
  refine Ev.bind (More_ev b hb hn 0 (by decide)) ?_
  exact Ev.now _
theorem awake_ev : Ev (fun k => aquiferlaw3_awake.f k) true := by
  unfold aquiferlaw3_awake.f
  refine Ev.bind (Sum_ev [49, 50, 51, 52, 53, 54, 55, 56, 57] (by decide) (by decide)) ?_
  rw [show sumN [49, 50, 51, 52, 53, 54, 55, 56, 57] = 3421780262 from by decide +kernel]
  exact Ev.now _
/-- Three lists turned together, as far as all reach. -/
def tri : List Nat → List Nat → List Nat → List Nat
  | x :: a, y :: b, z :: c => (x ^^^ y ^^^ z) :: tri a b c
  | _, _, _ => []
theorem tri_length : ∀ (a b c : List Nat), (tri a b c).length = min (min a.length b.length) c.length
  | [], b, c => by simp [tri]
  | x :: a, [], c => by simp [tri]
  | x :: a, y :: b, [] => by simp [tri]
  | x :: a, y :: b, z :: c => by simp [tri, tri_length a b c]
theorem tri_at : ∀ (a b c : List Nat) (i : Nat) (ha : i < a.length) (hb : i < b.length) (hc : i < c.length), (tri a b c)[i]? = some (a[i] ^^^ b[i] ^^^ c[i])
  | [], b, c, i, ha, hb, hc => by simp at ha
  | x :: a, [], c, i, ha, hb, hc => by simp at hb
  | x :: a, y :: b, [], i, ha, hb, hc => by simp at hc
  | x :: a, y :: b, z :: c, 0, ha, hb, hc => by simp [tri]
  | x :: a, y :: b, z :: c, i + 1, ha, hb, hc => by
    simp only [tri, List.getElem?_cons_succ, List.getElem_cons_succ]
    exact tri_at a b c i _ _ _
theorem tri_lt : ∀ (a b c : List Nat), (∀ x ∈ a, x < 256) → (∀ x ∈ b, x < 256) → (∀ x ∈ c, x < 256) → ∀ x ∈ tri a b c, x < 256
  | [], b, c, ha, hb, hc => by simp [tri]
  | x :: a, [], c, ha, hb, hc => by simp [tri]
  | x :: a, y :: b, [], ha, hb, hc => by simp [tri]
  | x :: a, y :: b, z :: c, ha, hb, hc => by
    intro u hu
    simp only [tri, List.mem_cons] at hu
    rcases hu with rfl | hu
    · exact Nat.xor_lt_two_pow (n := 8) (Nat.xor_lt_two_pow (n := 8) (ha x (by simp)) (hb y (by simp))) (hc z (by simp))
    · exact tri_lt a b c (fun v hv => ha v (List.mem_cons_of_mem _ hv)) (fun v hv => hb v (List.mem_cons_of_mem _ hv)) (fun v hv => hc v (List.mem_cons_of_mem _ hv)) u hu
theorem crc_tri (n : Nat) : ∀ (a b c : List Nat), a.length = n → b.length = n → c.length = n → ∀ s t u : Nat, crc s a ^^^ crc t b ^^^ crc u c = crc (s ^^^ t ^^^ u) (tri a b c) := by
  induction n with
  | zero =>
    intro a b c ha hb hc s t u
    rw [List.eq_nil_of_length_eq_zero ha, List.eq_nil_of_length_eq_zero hb, List.eq_nil_of_length_eq_zero hc]
    rfl
  | succ n ih =>
    intro a b c ha hb hc s t u
    match a, b, c, ha, hb, hc with
    | x :: a, y :: b, z :: c, ha, hb, hc =>
      simp only [tri, crc_cons]
      rw [ih a b c (by simpa using ha) (by simpa using hb) (by simpa using hc), ← csteps_xor, ← csteps_xor]
      congr 2
      ac_rfl
theorem sum_tri (a b c : List Nat) (n : Nat) (ha : a.length = n) (hb : b.length = n) (hc : c.length = n) : sumN a ^^^ sumN b ^^^ sumN c = sumN (tri a b c) := by
  unfold sumN
  rw [show crc 4294967295 a ^^^ 4294967295 ^^^ (crc 4294967295 b ^^^ 4294967295) ^^^ (crc 4294967295 c ^^^ 4294967295) = (crc 4294967295 a ^^^ crc 4294967295 b ^^^ crc 4294967295 c) ^^^ (4294967295 ^^^ 4294967295 ^^^ 4294967295) from by ac_rfl]
  rw [crc_tri n a b c ha hb hc]
  rfl
theorem rd_map (c : List Nat) (j : Nat) (hj : j < c.length) : rd (c.map Int.ofNat) (j : Int) = (c[j] : Int) := by
  simp [rd, List.getD_eq_getElem?_getD, List.getElem?_eq_getElem hj]
theorem w5_ (i : Nat) (h : i < 200000) : wrap64 ((i : Int) + 1) = ((i + 1 : Nat) : Int) := by unfold wrap64; omega
/-- The first i of the new text are filled. -/
theorem loop (a b c : List Nat) (ha : ∀ x ∈ a, x < 256) (hb : ∀ x ∈ b, x < 256) (hc : ∀ x ∈ c, x < 256) (n : Nat) (hn : n ≤ 2000) (la : n ≤ a.length) (lb : n ≤ b.length) (lc : n ≤ c.length)
    (r : Bool) (hr : Ev (fun k => aquiferlaw3_SumLines.l0 k (a.map Int.ofNat) (b.map Int.ofNat) (c.map Int.ofNat) (n : Int) ((tri (a.take n) (b.take n) (c.take n)).map Int.ofNat) (n : Int)) r) (d : Nat) :
    ∀ (i : Nat), i + d = n → Ev (fun k => aquiferlaw3_SumLines.l0 k (a.map Int.ofNat) (b.map Int.ofNat) (c.map Int.ofNat) (n : Int) (((tri (a.take n) (b.take n) (c.take n)).take i).map Int.ofNat ++ List.replicate (n - i) 0) (i : Int)) r := by
  have hT : (tri (a.take n) (b.take n) (c.take n)).length = n := by rw [tri_length]; simp; omega
  induction d with
  | zero =>
    intro i hi
    obtain rfl : i = n := by omega
    rw [List.take_of_length_le (by omega), Nat.sub_self, List.replicate_zero, List.append_nil]
    exact hr
  | succ d ih =>
    intro i hi
    have hia : i < a.length := by omega
    have hib : i < b.length := by omega
    have hic : i < c.length := by omega
    have hx := ha _ (List.getElem_mem hia)
    have hy := hb _ (List.getElem_mem hib)
    have hz := hc _ (List.getElem_mem hic)
    have hxy := Nat.xor_lt_two_pow (n := 8) hx hy
    have hTi : (tri (a.take n) (b.take n) (c.take n))[i]? = some (a[i] ^^^ b[i] ^^^ c[i]) := by
      rw [tri_at _ _ _ i (by simp; omega) (by simp; omega) (by simp; omega)]
      simp
    have hlen : (((tri (a.take n) (b.take n) (c.take n)).take i).map Int.ofNat).length = i := by simp [hT]; omega
    have hset : ((((tri (a.take n) (b.take n) (c.take n)).take i).map Int.ofNat ++ List.replicate (n - i) 0).set i (((a[i] ^^^ b[i] ^^^ c[i] : Nat)) : Int)) = ((tri (a.take n) (b.take n) (c.take n)).take (i + 1)).map Int.ofNat ++ List.replicate (n - (i + 1)) 0 := by
      rw [List.set_append_right _ _ (by omega), hlen, Nat.sub_self, List.take_add_one, hTi]
      obtain ⟨m, hm⟩ : ∃ m, n - i = m + 1 := ⟨n - i - 1, by omega⟩
      rw [hm, List.replicate_succ, show n - (i + 1) = m from by omega]
      simp
    refine Ev.step (fun k => ?_) (ih (i + 1) (by omega))
    simp only [aquiferlaw3_SumLines.l0]
    have l1 : (i : Int) < (n : Int) := by omega
    have l2 : (i : Int) < ((a.map Int.ofNat).length : Int) := by rw [List.length_map]; omega
    have l3 : (i : Int) < ((b.map Int.ofNat).length : Int) := by rw [List.length_map]; omega
    have l4 : (i : Int) < ((c.map Int.ofNat).length : Int) := by rw [List.length_map]; omega
    have l5 : (i : Int) < ((((tri (a.take n) (b.take n) (c.take n)).take i).map Int.ofNat ++ List.replicate (n - i) 0).length : Int) := by rw [List.length_append, hlen, List.length_replicate]; omega
    rw [if_pos l1, if_pos (Int.natCast_nonneg _), if_pos l2, if_pos l3, if_pos l4, if_pos l5, rd_map a i hia, rd_map b i hib, rd_map c i hic, bits_xor_u8 hx hy, bits_xor_u8 hxy hz, w5_ i (by omega), Int.toNat_natCast, hset]
theorem last (a b c : List Nat) (ha : ∀ x ∈ a, x < 256) (hb : ∀ x ∈ b, x < 256) (hc : ∀ x ∈ c, x < 256) (n : Nat) (hn : n ≤ 2000) (la : n ≤ a.length) (lb : n ≤ b.length) (lc : n ≤ c.length) :
    Ev (fun k => aquiferlaw3_SumLines.l0 k (a.map Int.ofNat) (b.map Int.ofNat) (c.map Int.ofNat) (n : Int) ((tri (a.take n) (b.take n) (c.take n)).map Int.ofNat) (n : Int)) true := by
  have mem : ∀ {l : List Nat}, (∀ x ∈ l, x < 256) → ∀ x ∈ l.take n, x < 256 := fun h x hx => h x (List.mem_of_mem_take hx)
  have hTl := tri_lt _ _ _ (mem ha) (mem hb) (mem hc)
  have hT : (tri (a.take n) (b.take n) (c.take n)).length = n := by rw [tri_length]; simp; omega
  have hsum := sum_tri (a.take n) (b.take n) (c.take n) n (by simp; omega) (by simp; omega) (by simp; omega)
  have e0 : sumN [] = 0 := by decide
  have sa := sumN_lt _ (mem ha)
  have sb := sumN_lt _ (mem hb)
  have sc := sumN_lt _ (mem hc)
  have lx := Nat.xor_lt_two_pow sa sb
  refine Ev.step (f := fun k => (sum_Sum.f k ((a.take n).map Int.ofNat)).bind fun t116 => (sum_Sum.f k ((b.take n).map Int.ofNat)).bind fun t118 => (sum_Sum.f k ((c.take n).map Int.ofNat)).bind fun t120 => (sum_Sum.f k ((tri (a.take n) (b.take n) (c.take n)).map Int.ofNat)).bind fun t121 => if (Go.bits .xor .i64 (Go.bits .xor .i64 t116 t118) t120) = t121 then (sum_Sum.f k []).bind fun t122 => if t122 = 0 then (aquiferlaw3_awake.f k).bind fun t123 => some t123 else some false else some false) (fun k => ?_) ?_
  · simp only [aquiferlaw3_SumLines.l0]
    have l2 : (n : Int) ≤ ((a.map Int.ofNat).length : Int) := by rw [List.length_map]; omega
    have l3 : (n : Int) ≤ ((b.map Int.ofNat).length : Int) := by rw [List.length_map]; omega
    have l4 : (n : Int) ≤ ((c.map Int.ofNat).length : Int) := by rw [List.length_map]; omega
    rw [if_neg (Int.lt_irrefl _), if_pos (Int.natCast_nonneg _), if_pos l2]
    simp only [if_pos l3, if_pos l4, Int.toNat_natCast, List.map_take]
  · refine Ev.bind (Sum_ev _ (mem ha) (by simp; omega)) (Ev.bind (Sum_ev _ (mem hb) (by simp; omega)) (Ev.bind (Sum_ev _ (mem hc) (by simp; omega)) (Ev.bind (Sum_ev _ hTl (by omega)) ?_)))
    rw [bits_xor_i64 sa sb, bits_xor_i64 lx sc, hsum]
    simp only [if_true]
    have h0 := Sum_ev [] (by simp) (by simp)
    rw [e0] at h0
    refine Ev.bind h0 ?_
    simp only [Int.natCast_zero, if_true]
    exact Ev.bind awake_ev (Ev.now _)
end SumLinesP
open SumLinesP
theorem SumLines : aquiferlaw3_SumLines.Pure := by
  intro l0 l1 l2 h0 n0 w0 h1 n1 w1 h2 n2 w2
  obtain ⟨a, rfl, ha⟩ := bytes_nat l0 w0
  obtain ⟨b, rfl, hb⟩ := bytes_nat l1 w1
  obtain ⟨c, rfl, hc⟩ := bytes_nat l2 w2
  refine Ev.rounds ?_
  have hmn : mn (mn ((a.map Int.ofNat).length : Int) ((b.map Int.ofNat).length : Int)) ((c.map Int.ofNat).length : Int) = ((min (min a.length b.length) c.length : Nat) : Int) := by
    simp only [List.length_map]; unfold mn; omega
  unfold aquiferlaw3_SumLines.f
  rw [hmn]
  generalize hn : min (min a.length b.length) c.length = n
  by_cases g : (n : Int) > 2000
  · simp only [if_pos g]; exact Ev.bind awake_ev (Ev.now _)
  · have gn : n ≤ 2000 := by omega
    have gs : n ≤ 281474976710656 := by omega
    simp only [if_neg g, if_pos (Int.natCast_nonneg n), Int.toNat_natCast, if_pos gs]
    have := loop a b c ha hb hc n gn (by omega) (by omega) (by omega) true (last a b c ha hb hc n gn (by omega) (by omega) (by omega)) n 0 (by omega)
    simpa using this
end Go.Proofs.Ytedoechheeclgaa.Pure
