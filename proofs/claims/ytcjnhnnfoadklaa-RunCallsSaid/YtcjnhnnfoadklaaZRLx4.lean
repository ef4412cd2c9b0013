import Derived.Test.YtcjnhnnfoadklaaZRLx3
namespace Go.Proofs.Ytcjnhnnfoadklaa.QRunCalls
open Go.RowKit Go.Proofs.YtcjnhnnfoadklaaW.PrintWords Go.Proofs.YtcjnhnnfoadklaaW.PrintLast Go.Proofs.YtcjnhnnfoadklaaW.PrintMore
attribute [local go_sem] max2_int min2_int max_two min_two max_three min_three max_four min_four
set_option linter.unusedVariables false
set_option linter.unusedSimpArgs false
structure rn.ST (w0 W : World) (br bf : Nat) (l : List S39) (AL : Option Addr) (cL : Nat) (mod : ByteArray) (m : List S61) (fu : Int) (tr : List ByteArray) (loc : List S61) (res : Int) (vm vt vx : Value) : Prop where
 hB : Below w0.heap.size w0 W
 hr : W.heap[br]? = some (.cells #[.slice AL l.length cL, vm, .int .i64 fu, vt] 71 (0, 0))
 hf : W.heap[bf]? = some (.cells #[.string mod, vx, .int .i64 res] 98 (0, 0))
 hm : k61.R 61 W w0.heap.size (fun k => some k ≠ vx.ownBlock) vm m
 ht : Kd.string.R 9 W w0.heap.size (fun _ => True) vt tr
 hx : k61.R 61 W w0.heap.size (fun _ => True) vx loc
 gr : w0.heap.size ≤ br
 gf : w0.heap.size ≤ bf
section
variable {w0 W W' : World} {br bf : Nat} {l : List S39} {AL : Option Addr} {cL : Nat} {mod : ByteArray} {m m' : List S61} {fu fu' : Int} {tr tr' : List ByteArray} {loc loc' : List S61} {res res' : Int} {vm vt vx vm' vt' vx' : Value}
theorem rn.ST.ne (x : rn.ST w0 W br bf l AL cL mod m fu tr loc res vm vt vx) : br ≠ bf := blk_ne x.hr x.hf (by decide)
theorem rn.ST.sz (x : rn.ST w0 W br bf l AL cL mod m fu tr loc res vm vt vx) : w0.heap.size ≤ W.heap.size := below_size x.hB
theorem rn.ST.below (x : rn.ST w0 W br bf l AL cL mod m fu tr loc res vm vt vx) (hb : Below W.heap.size W W') : rn.ST w0 W' br bf l AL cL mod m fu tr loc res vm vt vx :=
 ⟨below_then x.hB x.sz hb, blk_below x.hr hb, blk_below x.hf hb, Kd.R_below x.hm hb, Kd.R_below x.ht hb, Kd.R_below x.hx hb, x.gr, x.gf⟩
theorem rn.ST.drewN (x : rn.ST w0 W br bf l AL cL mod m fu tr loc res vm vt vx) (n : Nat) : rn.ST w0 (W.drewN n) br bf l AL cL mod m fu tr loc res vm vt vx := x.below (pw_below_drewN (Below.refl _ _) n)
theorem rn.ST.setr (x : rn.ST w0 W br bf l AL cL mod m fu tr loc res vm vt vx) (j : Nat) (u : Value) (h : (W.setCell ⟨br, j, none⟩ u).heap[br]? = some (.cells #[.slice AL l.length cL, vm, .int .i64 fu', vt] 71 (0, 0))) : rn.ST w0 (W.setCell ⟨br, j, none⟩ u) br bf l AL cL mod m fu' tr loc res vm vt vx :=
 ⟨below_set x.hB x.gr, h, blk_far x.hf (Ne.symm x.ne) u, Kd.R_set x.hm x.hr (by decide) j u, Kd.R_set x.ht x.hr (by decide) j u, Kd.R_set x.hx x.hr (by decide) j u, x.gr, x.gf⟩
theorem rn.ST.fuel (x : rn.ST w0 W br bf l AL cL mod m fu tr loc res vm vt vx) (y : Int) : rn.ST w0 (W.setCell ⟨br, 2, none⟩ (.int .i64 y)) br bf l AL cL mod m y tr loc res vm vt vx := x.setr 2 _ (blk_put x.hr 2 _ rfl)
theorem rn.ST.result (x : rn.ST w0 W br bf l AL cL mod m fu tr loc res vm vt vx) (y : Int) : rn.ST w0 (W.setCell ⟨bf, 2, none⟩ (.int .i64 y)) br bf l AL cL mod m fu tr loc y vm vt vx :=
 ⟨below_set x.hB x.gf, blk_far x.hr x.ne _, blk_put x.hf 2 _ rfl, Kd.R_set x.hm x.hf (by decide) 2 _, Kd.R_set x.ht x.hf (by decide) 2 _, Kd.R_set x.hx x.hf (by decide) 2 _, x.gr, x.gf⟩
theorem rn.ST.cr (x : rn.ST w0 W br bf l AL cL mod m fu tr loc res vm vt vx) : W.cell? ⟨br, 0, none⟩ = some (.slice AL l.length cL) ∧ W.cell? ⟨br, 1, none⟩ = some vm ∧ W.cell? ⟨br, 2, none⟩ = some (.int .i64 fu) ∧ W.cell? ⟨br, 3, none⟩ = some vt ∧ W.frozen? ⟨br, 1, none⟩ = false ∧ W.frozen? ⟨br, 2, none⟩ = false ∧ W.frozen? ⟨br, 3, none⟩ = false :=
 ⟨(blk_cell x.hr 0).trans rfl, (blk_cell x.hr 1).trans rfl, (blk_cell x.hr 2).trans rfl, (blk_cell x.hr 3).trans rfl, blk_frozen x.hr 1, blk_frozen x.hr 2, blk_frozen x.hr 3⟩
theorem rn.ST.cf (x : rn.ST w0 W br bf l AL cL mod m fu tr loc res vm vt vx) : W.cell? ⟨bf, 0, none⟩ = some (.string mod) ∧ W.cell? ⟨bf, 1, none⟩ = some vx ∧ W.cell? ⟨bf, 2, none⟩ = some (.int .i64 res) ∧ W.frozen? ⟨bf, 1, none⟩ = false ∧ W.frozen? ⟨bf, 2, none⟩ = false :=
 ⟨(blk_cell x.hf 0).trans rfl, (blk_cell x.hf 1).trans rfl, (blk_cell x.hf 2).trans rfl, blk_frozen x.hf 1, blk_frozen x.hf 2⟩
set_option maxHeartbeats 4000000 in
theorem rn.pay0 (x : rn.ST w0 W br bf l AL cL mod m 0 tr loc res vm vt vx) :
  Calls Try.prog 57 #[.pointer (some ⟨br, 0, none⟩)] W fun e w' => e = .returned (.bool false) ∧ W = w' := by
 obtain ⟨c0, c1, c2, c3, f1, f2, f3⟩ := x.cr
 clear x
 go_enter Try.func57, Try.ntmps57
 go_wp2
 go_ret
 exact ⟨rfl, rfl⟩
set_option maxHeartbeats 4000000 in
theorem rn.pay1 (x : rn.ST w0 W br bf l AL cL mod m fu tr loc res vm vt vx) (h : ¬ fu = 0) :
  Calls Try.prog 57 #[.pointer (some ⟨br, 0, none⟩)] W fun e w' => e = .returned (.bool true) ∧ rn.ST w0 w' br bf l AL cL mod m (wrap64 (fu - 1)) tr loc res vm vt vx ∧ KeepBut W w' br none := by
 have X0 := za x
 obtain ⟨c0, c1, c2, c3, f1, f2, f3⟩ := x.cr
 have hb : (fu == 0) = false := beq_eq_false_iff_ne.mpr h
 clear x h
 go_enter Try.func57, Try.ntmps57
 go_wp2
 go_ret
 exact ⟨rfl, X0.out.fuel _, (KeepBut.refl _ _ _).set_ _ _⟩
set_option maxRecDepth 100000 in
set_option maxHeartbeats 4000000 in
theorem rn.value_calls (k : Nat) (x : rn.ST w0 W br bf l AL cL mod m fu tr loc res vm vt vx) (A : Option Addr) (c : Nat) (E : List S140) (v : Int) (hE : k140.C W A E.length E) (hc : E.length ≤ c) (h : eV.f k E ((E.length : Int) - 1) mod loc m = some v) :
  Calls Try.prog 58 #[.pointer (some ⟨br, 0, none⟩), .pointer (some ⟨bf, 0, none⟩), .slice A E.length c] W fun e w' => e = .returned (.int .i64 v) ∧ rn.ST w0 w' br bf l AL cL mod m fu tr loc res vm vt vx ∧ Below W.heap.size W w' := by
 have X0 := za x
 obtain ⟨Am, cm, em, hcm, hM⟩ := Kd.R_reads x.hm
 obtain ⟨Ax, cx, ex, hcx, hX⟩ := Kd.R_reads x.hx
 subst em ex
 obtain ⟨c0, c1, c2, c3, f1, f2, f3⟩ := x.cr
 obtain ⟨d0, d1, d2, g1, g2⟩ := x.cf
 have HE := za hE
 have HC := za hc
 have HM := za hM
 have HX := za hX
 have HCM := za hcm
 have HCX := za hcx
 have H := za h
 have hmx := Kd.C_max hE
 have hw : IntKind.i64.wrap ((E.length : Int) - 1) = (E.length : Int) - 1 := by rw [IntKind.wrap_i64]; omega
 clear x hE hc hM hX hcm hcx h hmx
 go_enter Try.func58, Try.ntmps58
 go_wp2
 go_still_tail 16, zq13
 change wpList _ _ _ _ _ W.drew
 go_wp2_with (go_at_call 68; refine (eV.calls k _ _ E _ _ _ _ loc _ _ m v _ (Kd.C_drew HE.out) HC.out (Kd.C_drew HX.out) HCX.out (Kd.C_drew HM.out) HCM.out H.out).mono ?_; rintro e w2 ⟨rfl, hb⟩; have HB := za hb; clear hb c0 c1 c2 c3 f1 f2 f3 d0 d1 d2 g1 g2)
 go_ret
 have hb : Below W.heap.size W w2 := below_then (below_drew (Below.refl _ _)) (Nat.le_refl _) HB.out
 exact ⟨rfl, X0.out.below hb, hb⟩
end
section
def rn.idxM (y : ByteArray) : List S39 → Int → Int
 | [], _ => -1
 | c :: t, j => if c.f0.toList = y.toList then j else rn.idxM y t (j + 1)
def rn.idxP (y : ByteArray) : List S44 → Int → Int
 | [], _ => -1
 | c :: t, j => if c.f0.toList = y.toList then j else rn.idxP y t (j + 1)
theorem rn.idxM_at (y : ByteArray) (l : List S39) (x : Int) (h0 : 0 ≤ x) (h1 : x < (l.length : Int)) (j : Int) : rn.idxM y (l.drop x.toNat) j = if (rd_T39 l x).f0.toList = y.toList then j else rn.idxM y (l.drop (x + 1).toNat) (j + 1) := by
 have h : x.toNat < l.length := by omega
 rw [List.drop_eq_getElem_cons h, show (x + 1).toNat = x.toNat + 1 by omega]
 simp [rn.idxM, rd_T39, List.getD_eq_getElem?_getD, h]
theorem rn.idxP_at (y : ByteArray) (l : List S44) (x : Int) (h0 : 0 ≤ x) (h1 : x < (l.length : Int)) (j : Int) : rn.idxP y (l.drop x.toNat) j = if (rd_T44 l x).f0.toList = y.toList then j else rn.idxP y (l.drop (x + 1).toNat) (j + 1) := by
 have h : x.toNat < l.length := by omega
 rw [List.drop_eq_getElem_cons h, show (x + 1).toNat = x.toNat + 1 by omega]
 simp [rn.idxP, rd_T44, List.getD_eq_getElem?_getD, h]
theorem rn.idxM_lt (y : ByteArray) (l : List S39) : ∀ j : Int, 0 ≤ j → rn.idxM y l j < 0 ∨ (j ≤ rn.idxM y l j ∧ rn.idxM y l j < j + (l.length : Int)) := by
 induction l with
 | nil => intro j _; left; show (-1 : Int) < 0; omega
 | cons c t ih =>
  intro j hj
  unfold rn.idxM
  split
  ·
   right; simp; omega
  ·
   rcases ih (j + 1) (by omega) with h | ⟨h1, h2⟩
   ·
    exact .inl h
   ·
    right; simp at h2 ⊢; omega
theorem rn.idxP_lt (y : ByteArray) (l : List S44) : ∀ j : Int, 0 ≤ j → rn.idxP y l j < 0 ∨ (j ≤ rn.idxP y l j ∧ rn.idxP y l j < j + (l.length : Int)) := by
 induction l with
 | nil => intro j _; left; show (-1 : Int) < 0; omega
 | cons c t ih =>
  intro j hj
  unfold rn.idxP
  split
  ·
   right; simp; omega
  ·
   rcases ih (j + 1) (by omega) with h | ⟨h1, h2⟩
   ·
    exact .inl h
   ·
    right; simp at h2 ⊢; omega
set_option maxHeartbeats 4000000 in
theorem rn.find1_calls (x : S39) (y : ByteArray) (v2 v3 v4 : Value) (gb : Nat) (w : World) (hb : w.heap[gb]? = some (.cells #[.string y] 9 (0, 0))) :
  Calls Try.prog 35 #[.agg #[.string x.f0, .int .i64 x.f1, v2, v3, v4], .pointer (some ⟨gb, 0, none⟩)] w fun e w' => e = .returned (.bool (x.f0.toList == y.toList)) ∧ Below w.heap.size w w' := by
 have hu39 := Try.underlying39
 have HG := za hb
 clear hb
 go_enter Try.func35, Try.ntmps35
 go_wp2_with (first | ((with_reducible refine gate_dst (N := 2) rfl ?_); refine box_event ?hg (N := 2) ?hd (cs := #[.string x.f0, .int .i64 x.f1, v2, v3, v4]) (t := 39) ?hr ?_; (case hd => rfl); (case hg => rfl); (case hr => exact zq21); intro g2 hg w2 hbox hb; have BK := za hbox; have HB := za hb; have HG2 := za (blk_below HG.out hb); clear hbox hb hg; have c0 := (blk_cell BK.out 0).trans rfl; have d0 := (blk_cell HG2.out 0).trans rfl))
 go_ret
 exact ⟨rfl, HB.out⟩
set_option maxHeartbeats 4000000 in
theorem rn.find2_calls (x : S44) (y : ByteArray) (v1 v5 v6 : Value) (gb : Nat) (w : World) (hb : w.heap[gb]? = some (.cells #[.string y] 9 (0, 0))) :
  Calls Try.prog 37 #[.agg #[.string x.f0, v1, .bool x.f2, .string x.f3, .string x.f4, v5, v6, .int .i64 x.f7], .pointer (some ⟨gb, 0, none⟩)] w fun e w' => e = .returned (.bool (x.f0.toList == y.toList)) ∧ Below w.heap.size w w' := by
 have hu44 := Try.underlying44
 have HG := za hb
 clear hb
 go_enter Try.func37, Try.ntmps37
 go_wp2_with (first | ((with_reducible refine gate_dst (N := 2) rfl ?_); refine box_event ?hg (N := 2) ?hd (cs := #[.string x.f0, v1, .bool x.f2, .string x.f3, .string x.f4, v5, v6, .int .i64 x.f7]) (t := 44) ?hr ?_; (case hd => rfl); (case hg => rfl); (case hr => exact zq21); intro g2 hg w2 hbox hb; have BK := za hbox; have HB := za hb; have HG2 := za (blk_below HG.out hb); clear hbox hb hg; have c0 := (blk_cell BK.out 0).trans rfl; have d0 := (blk_cell HG2.out 0).trans rfl))
 go_ret
 exact ⟨rfl, HB.out⟩
set_option maxHeartbeats 4000000 in
theorem rn.idxM_calls (A0 : Option Addr) (c0 : Nat) (l0 : List S39) (y : ByteArray) (gb : Nat) (w : World) (hr : k39.C w A0 l0.length l0) (hc : l0.length ≤ c0) (hb : w.heap[gb]? = some (.cells #[.string y] 9 (0, 0))) :
  Calls Try.prog 34 #[.slice A0 l0.length c0, .func (.func 35) #[] #[.pointer (some ⟨gb, 0, none⟩)]] w fun e w' => e = .returned (.int .i64 (rn.idxM y l0 0)) ∧ Below w.heap.size w w' := by
 have hu39 := Try.underlying39
 have HG := za hb
 have HR := za hr
 have HC := za hc
 have hl := Kd.C_max hr
 clear hb hr hc
 go_enter Try.func34, Try.ntmps34
 go_wp2
 go_loopw [8] (fun i wr => ∃ x : Int, i = .int .i64 x ∧ 0 ≤ x ∧ x ≤ (l0.length : Int) ∧ Aside0 (rn.idxM y l0 0 = rn.idxM y (l0.drop x.toNat) x) ∧ Aside0 (Below w.heap.size w wr)) (fun i _ => l0.length - (intOf i).toNat)
 case atStart => exact ⟨0, rfl, by omega, by omega, ⟨by simp⟩, ⟨Below.refl _ _⟩⟩
 case round =>
  obtain ⟨x, rfl, h0, h1, HI, HB⟩ := hrel
  by_cases hlt : x < (l0.length : Int)
  ·
   have p0 := eq_true h0
   have p1 := eq_true hlt
   obtain ⟨ad, A2, c2, A3, c3, A4, c4, ea, hx0, hx1, hx2, hx3, hx4, _⟩ := at_T39 HR.out x h0 hlt
   cases ea
   replace hx0 := (HB.out.cell (World.block_lt_of_cell? w _ hx0)).trans hx0
   replace hx1 := (HB.out.cell (World.block_lt_of_cell? w _ hx1)).trans hx1
   replace hx2 := (HB.out.cell (World.block_lt_of_cell? w _ hx2)).trans hx2
   replace hx3 := (HB.out.cell (World.block_lt_of_cell? w _ hx3)).trans hx3
   replace hx4 := (HB.out.cell (World.block_lt_of_cell? w _ hx4)).trans hx4
   have HGr := za ((HB.out.block gb (blk_lt HG.out)).trans HG.out)
   have HS := za (rn.idxM_at y l0 x h0 hlt x)
   by_cases hq : (rd_T39 l0 x).f0.toList = y.toList
   ·
    have hqb : ((rd_T39 l0 x).f0.toList == y.toList) = true := beq_iff_eq.mpr hq
    have HQ := za hq
    clear hq
    go_wp2_with (go_at_call 35; refine (rn.find1_calls (rd_T39 l0 x) y _ _ _ gb _ HGr.out).mono ?_; rintro e w3 ⟨rfl, hb3⟩; have HB3 := za (below_step HB.out hb3); clear hb3 hx0 hx1 hx2 hx3 hx4)
    go_ret
    exact ⟨by rw [HI.out, HS.out, if_pos HQ.out]; rfl, HB3.out⟩
   ·
    have hqb : ((rd_T39 l0 x).f0.toList == y.toList) = false := beq_eq_false_iff_ne.mpr hq
    have HQ := za hq
    clear hq
    go_wp2_with (go_at_call 35; refine (rn.find1_calls (rd_T39 l0 x) y _ _ _ gb _ HGr.out).mono ?_; rintro e w3 ⟨rfl, hb3⟩; have HB3 := za (below_step HB.out hb3); clear hb3 hx0 hx1 hx2 hx3 hx4)
    go_roundw
    case rel => exact ⟨x + 1, by go_num, by omega, by omega, ⟨by rw [HI.out, HS.out, if_neg HQ.out]⟩, HB3⟩
    case measure => simp [intOf]; omega
  ·
   go_wp2
   go_ret
   exact ⟨by rw [HI.out, List.drop_eq_nil_of_le (by omega)]; rfl, HB.out⟩
set_option maxHeartbeats 4000000 in
theorem rn.idxP_calls (A0 : Option Addr) (c0 : Nat) (l0 : List S44) (y : ByteArray) (gb : Nat) (w : World) (hr : k44.C w A0 l0.length l0) (hc : l0.length ≤ c0) (hb : w.heap[gb]? = some (.cells #[.string y] 9 (0, 0))) :
  Calls Try.prog 36 #[.slice A0 l0.length c0, .func (.func 37) #[] #[.pointer (some ⟨gb, 0, none⟩)]] w fun e w' => e = .returned (.int .i64 (rn.idxP y l0 0)) ∧ Below w.heap.size w w' := by
 have hu44 := Try.underlying44
 have HG := za hb
 have HR := za hr
 have HC := za hc
 have hl := Kd.C_max hr
 clear hb hr hc
 go_enter Try.func36, Try.ntmps36
 go_wp2
 go_loopw [8] (fun i wr => ∃ x : Int, i = .int .i64 x ∧ 0 ≤ x ∧ x ≤ (l0.length : Int) ∧ Aside0 (rn.idxP y l0 0 = rn.idxP y (l0.drop x.toNat) x) ∧ Aside0 (Below w.heap.size w wr)) (fun i _ => l0.length - (intOf i).toNat)
 case atStart => exact ⟨0, rfl, by omega, by omega, ⟨by simp⟩, ⟨Below.refl _ _⟩⟩
 case round =>
  obtain ⟨x, rfl, h0, h1, HI, HB⟩ := hrel
  by_cases hlt : x < (l0.length : Int)
  ·
   have p0 := eq_true h0
   have p1 := eq_true hlt
   obtain ⟨ad, A1, c1, A5, c5, A6, c6, ea, hx0, hx1, hx2, hx3, hx4, hx5, hx6, hx7, _⟩ := at_T44 HR.out x h0 hlt
   cases ea
   replace hx0 := (HB.out.cell (World.block_lt_of_cell? w _ hx0)).trans hx0
   replace hx1 := (HB.out.cell (World.block_lt_of_cell? w _ hx1)).trans hx1
   replace hx2 := (HB.out.cell (World.block_lt_of_cell? w _ hx2)).trans hx2
   replace hx3 := (HB.out.cell (World.block_lt_of_cell? w _ hx3)).trans hx3
   replace hx4 := (HB.out.cell (World.block_lt_of_cell? w _ hx4)).trans hx4
   replace hx5 := (HB.out.cell (World.block_lt_of_cell? w _ hx5)).trans hx5
   replace hx6 := (HB.out.cell (World.block_lt_of_cell? w _ hx6)).trans hx6
   replace hx7 := (HB.out.cell (World.block_lt_of_cell? w _ hx7)).trans hx7
   have HGr := za ((HB.out.block gb (blk_lt HG.out)).trans HG.out)
   have HS := za (rn.idxP_at y l0 x h0 hlt x)
   by_cases hq : (rd_T44 l0 x).f0.toList = y.toList
   ·
    have hqb : ((rd_T44 l0 x).f0.toList == y.toList) = true := beq_iff_eq.mpr hq
    have HQ := za hq
    clear hq
    go_wp2_with (go_at_call 37; refine (rn.find2_calls (rd_T44 l0 x) y _ _ _ gb _ HGr.out).mono ?_; rintro e w3 ⟨rfl, hb3⟩; have HB3 := za (below_step HB.out hb3); clear hb3 hx0 hx1 hx2 hx3 hx4 hx5 hx6 hx7)
    go_ret
    exact ⟨by rw [HI.out, HS.out, if_pos HQ.out]; rfl, HB3.out⟩
   ·
    have hqb : ((rd_T44 l0 x).f0.toList == y.toList) = false := beq_eq_false_iff_ne.mpr hq
    have HQ := za hq
    clear hq
    go_wp2_with (go_at_call 37; refine (rn.find2_calls (rd_T44 l0 x) y _ _ _ gb _ HGr.out).mono ?_; rintro e w3 ⟨rfl, hb3⟩; have HB3 := za (below_step HB.out hb3); clear hb3 hx0 hx1 hx2 hx3 hx4 hx5 hx6 hx7)
    go_roundw
    case rel => exact ⟨x + 1, by go_num, by omega, by omega, ⟨by rw [HI.out, HS.out, if_neg HQ.out]⟩, HB3⟩
    case measure => simp [intOf]; omega
  ·
   go_wp2
   go_ret
   exact ⟨by rw [HI.out, List.drop_eq_nil_of_le (by omega)]; rfl, HB.out⟩
end
section
def rn.find (l : List S39) (mod proc : ByteArray) (args : Int) : S44 × Bool :=
 if rn.idxM mod l 0 < 0 then (z44, false)
 else if rn.idxP proc (rd_T39 l (rn.idxM mod l 0)).f4 0 < 0 then (z44, false)
 else if ((rd_T44 (rd_T39 l (rn.idxM mod l 0)).f4 (rn.idxP proc (rd_T39 l (rn.idxM mod l 0)).f4 0)).f1.length : Int) = args then (rd_T44 (rd_T39 l (rn.idxM mod l 0)).f4 (rn.idxP proc (rd_T39 l (rn.idxM mod l 0)).f4 0), true)
 else (z44, false)
structure rn.PV (w : World) (p : S44) (A1 : Option Addr) (c1 : Nat) (A5 : Option Addr) (c5 : Nat) (A6 : Option Addr) (c6 : Nat) : Prop where
 l1 : p.f1.length ≤ c1
 g1 : k100.C w A1 p.f1.length p.f1
 l5 : p.f5.length ≤ c5
 g5 : Kd.string.C w A5 p.f5.length p.f5
 l6 : p.f6.length ≤ c6
 g6 : k91.C w A6 p.f6.length p.f6
theorem rn.PV.below {w w' : World} {p : S44} {A1 A5 A6 : Option Addr} {c1 c5 c6 : Nat} (x : rn.PV w p A1 c1 A5 c5 A6 c6) (hb : Below w.heap.size w w') : rn.PV w' p A1 c1 A5 c5 A6 c6 :=
 ⟨x.l1, Kd.C_below x.g1 hb, x.l5, Kd.C_below x.g5 hb, x.l6, Kd.C_below x.g6 hb⟩
theorem rn.PV.zero (w : World) : rn.PV w z44 none 0 none 0 none 0 := ⟨Nat.le_refl _, Kd.C_nil _ _, Nat.le_refl _, Kd.C_nil _ _, Nat.le_refl _, Kd.C_nil _ _⟩
abbrev rn.pcs (p : S44) (A1 : Option Addr) (c1 : Nat) (A5 : Option Addr) (c5 : Nat) (A6 : Option Addr) (c6 : Nat) : Array Value := #[.string p.f0, .slice A1 p.f1.length c1, .bool p.f2, .string p.f3, .string p.f4, .slice A5 p.f5.length c5, .slice A6 p.f6.length c6, .int .i64 p.f7]
theorem rn.blk8 {g : Nat} {W : World} {t : TypeId} {a0 a1 a2 a3 a4 a5 a6 a7 : Value} (h : W.heap[g]? = some (.cells #[a0, a1, a2, a3, a4, a5, a6, a7] t (0, 0))) (u0 u1 u2 u3 u4 u5 u6 u7 : Value) :
  ((((((((W.setCell ⟨g, 0, none⟩ u0).setCell ⟨g, 1, none⟩ u1).setCell ⟨g, 2, none⟩ u2).setCell ⟨g, 3, none⟩ u3).setCell ⟨g, 4, none⟩ u4).setCell ⟨g, 5, none⟩ u5).setCell ⟨g, 6, none⟩ u6).setCell ⟨g, 7, none⟩ u7).heap[g]? = some (.cells #[u0, u1, u2, u3, u4, u5, u6, u7] t (0, 0)) := by
 have z0 : (W.setCell ⟨g, 0, none⟩ u0).heap[g]? = some (.cells #[u0, a1, a2, a3, a4, a5, a6, a7] t (0, 0)) := blk_put h 0 u0 rfl
 have z1 : ((W.setCell ⟨g, 0, none⟩ u0).setCell ⟨g, 1, none⟩ u1).heap[g]? = some (.cells #[u0, u1, a2, a3, a4, a5, a6, a7] t (0, 0)) := blk_put z0 1 u1 rfl
 have z2 : (((W.setCell ⟨g, 0, none⟩ u0).setCell ⟨g, 1, none⟩ u1).setCell ⟨g, 2, none⟩ u2).heap[g]? = some (.cells #[u0, u1, u2, a3, a4, a5, a6, a7] t (0, 0)) := blk_put z1 2 u2 rfl
 have z3 : ((((W.setCell ⟨g, 0, none⟩ u0).setCell ⟨g, 1, none⟩ u1).setCell ⟨g, 2, none⟩ u2).setCell ⟨g, 3, none⟩ u3).heap[g]? = some (.cells #[u0, u1, u2, u3, a4, a5, a6, a7] t (0, 0)) := blk_put z2 3 u3 rfl
 have z4 : (((((W.setCell ⟨g, 0, none⟩ u0).setCell ⟨g, 1, none⟩ u1).setCell ⟨g, 2, none⟩ u2).setCell ⟨g, 3, none⟩ u3).setCell ⟨g, 4, none⟩ u4).heap[g]? = some (.cells #[u0, u1, u2, u3, u4, a5, a6, a7] t (0, 0)) := blk_put z3 4 u4 rfl
 have z5 : ((((((W.setCell ⟨g, 0, none⟩ u0).setCell ⟨g, 1, none⟩ u1).setCell ⟨g, 2, none⟩ u2).setCell ⟨g, 3, none⟩ u3).setCell ⟨g, 4, none⟩ u4).setCell ⟨g, 5, none⟩ u5).heap[g]? = some (.cells #[u0, u1, u2, u3, u4, u5, a6, a7] t (0, 0)) := blk_put z4 5 u5 rfl
 have z6 : (((((((W.setCell ⟨g, 0, none⟩ u0).setCell ⟨g, 1, none⟩ u1).setCell ⟨g, 2, none⟩ u2).setCell ⟨g, 3, none⟩ u3).setCell ⟨g, 4, none⟩ u4).setCell ⟨g, 5, none⟩ u5).setCell ⟨g, 6, none⟩ u6).heap[g]? = some (.cells #[u0, u1, u2, u3, u4, u5, u6, a7] t (0, 0)) := blk_put z5 6 u6 rfl
 have z7 : ((((((((W.setCell ⟨g, 0, none⟩ u0).setCell ⟨g, 1, none⟩ u1).setCell ⟨g, 2, none⟩ u2).setCell ⟨g, 3, none⟩ u3).setCell ⟨g, 4, none⟩ u4).setCell ⟨g, 5, none⟩ u5).setCell ⟨g, 6, none⟩ u6).setCell ⟨g, 7, none⟩ u7).heap[g]? = some (.cells #[u0, u1, u2, u3, u4, u5, u6, u7] t (0, 0)) := blk_put z6 7 u7 rfl
 exact z7
theorem rn.below8 {g : Nat} {w W : World} (h : Below w.heap.size w W) (hg : w.heap.size ≤ g) (u0 u1 u2 u3 u4 u5 u6 u7 : Value) :
  Below w.heap.size w ((((((((W.setCell ⟨g, 0, none⟩ u0).setCell ⟨g, 1, none⟩ u1).setCell ⟨g, 2, none⟩ u2).setCell ⟨g, 3, none⟩ u3).setCell ⟨g, 4, none⟩ u4).setCell ⟨g, 5, none⟩ u5).setCell ⟨g, 6, none⟩ u6).setCell ⟨g, 7, none⟩ u7) :=
 below_set (below_set (below_set (below_set (below_set (below_set (below_set (below_set h hg) hg) hg) hg) hg) hg) hg) hg
set_option maxRecDepth 100000 in
set_option maxHeartbeats 8000000 in
theorem rn.find_calls (AL : Option Addr) (cL : Nat) (l : List S39) (mod proc : ByteArray) (n : Nat) (p : S44) (b : Bool) (w0 w : World) (hr : k39.C w0 AL l.length l) (hB0 : Below w0.heap.size w0 w) (hc : l.length ≤ cL) (h : rn.find l mod proc (n : Int) = (p, b)) :
  Calls Try.prog 26 #[.slice AL l.length cL, .string mod, .string proc, .int .i64 (n : Int)] w fun e w' => ∃ A1 c1 A5 c5 A6 c6, e = .returned (.tuple #[.agg (rn.pcs p A1 c1 A5 c5 A6 c6), .bool b]) ∧ rn.PV w0 p A1 c1 A5 c5 A6 c6 ∧ Below w.heap.size w w' := by
 have hu39 := Try.underlying39
 have hu44 := Try.underlying44
 have HR := za hr
 have HB0 := za hB0
 have HC := za hc
 have H := za h
 clear hr hB0 hc h
 go_enter Try.func26, Try.ntmps26
 go_wp2_with (first | ((with_reducible refine gate_dst (N := 5) rfl ?_); refine box_event ?hg (N := 5) ?hd (cs := #[.string mod]) (t := 9) ?hr ?_; (case hd => rfl); (case hg => rfl); (case hr => exact zq21); intro b5 hg5 w5 hx5 hb5; have B5 := za hx5; have HB5 := za hb5; have G5 := za hg5; clear hx5 hb5 hg5) | ((with_reducible refine gate_dst (N := 6) rfl ?_); refine box_event ?hg (N := 6) ?hd (cs := #[.string proc]) (t := 9) ?hr ?_; (case hd => rfl); (case hg => rfl); (case hr => exact zq21); intro b6 hg6 w6 hx6 hb6; have B6 := za hx6; have HB6 := za hb6; have G6 := za hg6; clear hx6 hb6 hg6) | ((with_reducible refine gate_dst (N := 8) rfl ?_); refine box_event ?hg (N := 8) ?hd (cs := #[.string (⟨#[]⟩ : ByteArray), .slice none 0 0, .bool false, .string (⟨#[]⟩ : ByteArray), .string (⟨#[]⟩ : ByteArray), .slice none 0 0, .slice none 0 0, .int .i64 0]) (t := 44) ?hr ?_; (case hd => rfl); (case hg => rfl); (case hr => exact zq21); intro b8 hg8 w8 hx8 hb8; have B8 := za hx8; have HB8 := za hb8; have G8 := za hg8; clear hx8 hb8 hg8))
 have HB8' := za (below_step (below_step HB5.out HB6.out) HB8.out)
 have B5' := za (blk_below (blk_below B5.out HB6.out) HB8.out)
 have B6' := za (blk_below B6.out HB8.out)
 have G8' : Aside0 (w.heap.size ≤ b8) := ⟨by have h1 := G8.out; have h2 := below_size HB5.out; have h3 := below_size HB6.out; omega⟩
 clear HB5 HB6 HB8 B5 B6 G5 G6 G8
 refine (rn.idxM_calls AL cL l mod b5 _ (Kd.C_below HR.out (below_step HB0.out HB8'.out)) HC.out B5'.out).mono ?_
 rintro e w9 ⟨rfl, hb9⟩
 have HB9 := za (below_step HB8'.out hb9)
 have B69 := za (blk_below B6'.out hb9)
 have B89 := za (blk_below B8.out hb9)
 clear hb9 HB8' B5' B6' B8
 have hil := rn.idxM_lt mod l 0 (Int.le_refl 0)
 have hmx := Kd.C_max HR.out
 generalize hi : rn.idxM mod l 0 = i at *
 have HI := za hi
 clear hi
 have c0 := (blk_cell B89.out 0).trans rfl
 have c1 := (blk_cell B89.out 1).trans rfl
 have c2 := (blk_cell B89.out 2).trans rfl
 have c3 := (blk_cell B89.out 3).trans rfl
 have c4 := (blk_cell B89.out 4).trans rfl
 have c5 := (blk_cell B89.out 5).trans rfl
 have c6 := (blk_cell B89.out 6).trans rfl
 have c7 := (blk_cell B89.out 7).trans rfl
 have f0 := blk_frozen B89.out 0
 have f1 := blk_frozen B89.out 1
 have f2 := blk_frozen B89.out 2
 have f3 := blk_frozen B89.out 3
 have f4 := blk_frozen B89.out 4
 have f5 := blk_frozen B89.out 5
 have f6 := blk_frozen B89.out 6
 have f7 := blk_frozen B89.out 7
 by_cases hneg : i < 0
 ·
  have hb : decide (i < 0) = true := decide_eq_true hneg
  have HN := za hneg
  clear hneg hil hmx
  go_wp2
  refine bodyPost_ret (results_ct rfl _ _ b8 44 #[.string (⟨#[]⟩ : ByteArray), .slice none 0 0, .bool false, .string (⟨#[]⟩ : ByteArray), .string (⟨#[]⟩ : ByteArray), .slice none 0 0, .slice none 0 0, .int .i64 0] (0, 0) _ rfl (rn.blk8 B89.out _ _ _ _ _ _ _ _) hu44 rfl zq13) rfl ?_
  have h := H.out
  unfold rn.find at h
  rw [HI.out, if_pos HN.out] at h
  cases h
  exact ⟨none, 0, none, 0, none, 0, rfl, rn.PV.zero w0, rn.below8 HB9.out G8'.out _ _ _ _ _ _ _ _⟩
 ·
  have hb : decide (i < 0) = false := decide_eq_false hneg
  have HN := za hneg
  have h0 : 0 ≤ i := by omega
  have h1 : i < (l.length : Int) := by omega
  have p0 := eq_true h0
  have p1 := eq_true h1
  obtain ⟨ad, A2, k2, A3, k3, A4, k4, ea, _, _, _, _, e4, _, _, _, _, lp, gp⟩ := at_T39 HR.out i h0 h1
  cases ea
  have e4' := ((below_step HB0.out HB9.out).cell (World.block_lt_of_cell? w0 _ e4)).trans e4
  have GP := za gp
  have LP := za lp
  have E4 := za e4
  clear hneg gp lp e4
  generalize hM : rd_T39 l i = M at *
  have HMd := za hM
  clear hM
  have hkl := rn.idxP_lt proc M.f4 0 (Int.le_refl 0)
  have hmp := Kd.C_max GP.out
  generalize hk : rn.idxP proc M.f4 0 = k at *
  have HK := za hk
  clear hk hil
  by_cases hkn : k < 0
  ·
   have hbk : decide (k < 0) = true := decide_eq_true hkn
   have KN := za hkn
   clear hkn hkl hmp
   go_wp2_with (go_at_call 36; refine (rn.idxP_calls _ _ M.f4 proc b6 _ (Kd.C_below GP.out (below_step HB0.out HB9.out)) LP.out B69.out).mono ?_; rintro e w10 ⟨rfl, hb10⟩; rw [HK.out]; have HB10 := za (below_step HB9.out hb10); have B810 := za (blk_below B89.out hb10); clear hb10 e4' c0 c1 c2 c3 c4 c5 c6 c7 f0 f1 f2 f3 f4 f5 f6 f7; have e4' := ((below_step HB0.out HB10.out).cell (World.block_lt_of_cell? w0 _ E4.out)).trans E4.out; have c0 := (blk_cell B810.out 0).trans rfl; have c1 := (blk_cell B810.out 1).trans rfl; have c2 := (blk_cell B810.out 2).trans rfl; have c3 := (blk_cell B810.out 3).trans rfl; have c4 := (blk_cell B810.out 4).trans rfl; have c5 := (blk_cell B810.out 5).trans rfl; have c6 := (blk_cell B810.out 6).trans rfl; have c7 := (blk_cell B810.out 7).trans rfl; have f0 := blk_frozen B810.out 0; have f1 := blk_frozen B810.out 1; have f2 := blk_frozen B810.out 2; have f3 := blk_frozen B810.out 3; have f4 := blk_frozen B810.out 4; have f5 := blk_frozen B810.out 5; have f6 := blk_frozen B810.out 6; have f7 := blk_frozen B810.out 7)
   refine bodyPost_ret (results_ct rfl _ _ b8 44 #[.string (⟨#[]⟩ : ByteArray), .slice none 0 0, .bool false, .string (⟨#[]⟩ : ByteArray), .string (⟨#[]⟩ : ByteArray), .slice none 0 0, .slice none 0 0, .int .i64 0] (0, 0) _ rfl (rn.blk8 B810.out _ _ _ _ _ _ _ _) hu44 rfl zq13) rfl ?_
   have h := H.out
   unfold rn.find at h
   rw [HI.out, if_neg (Int.not_lt.2 HN.out), HMd.out, HK.out, if_pos KN.out] at h
   cases h
   exact ⟨none, 0, none, 0, none, 0, rfl, rn.PV.zero w0, rn.below8 HB10.out G8'.out _ _ _ _ _ _ _ _⟩
  ·
   have hbk : decide (k < 0) = false := decide_eq_false hkn
   have KN := za hkn
   have k0 : 0 ≤ k := by omega
   have k1 : k < (M.f4.length : Int) := by omega
   have q0 := eq_true k0
   have q1 := eq_true k1
   obtain ⟨ad2, A1, d1, A5, d5, A6, d6, ea2, g0, g1, g2, g3, g4, g5, g6, g7, l1, r1, l5, r5, l6, r6⟩ := at_T44 GP.out k k0 k1
   cases ea2
   generalize hP : rd_T44 M.f4 k = P at *
   have HP := za hP
   have PVV : Aside0 (rn.PV w0 P A1 d1 A5 d5 A6 d6) := ⟨⟨l1, r1, l5, r5, l6, r6⟩⟩
   have G0 := za g0
   have G1 := za g1
   have G2 := za g2
   have G3 := za g3
   have G4 := za g4
   have G5 := za g5
   have G6 := za g6
   have G7 := za g7
   clear hP l1 r1 l5 r5 l6 r6 hkn hkl g0 g1 g2 g3 g4 g5 g6 g7
   by_cases hn : (P.f1.length : Int) = (n : Int)
   ·
    have hnb : ((P.f1.length : Int) == (n : Int)) = true := beq_iff_eq.mpr hn
    have hnb2 : ((P.f1.length : Int) != (n : Int)) = false := bne_eq_false_iff_eq.mpr hn
    have HNN := za hn
    clear hn
    go_wp2_with (go_at_call 36; refine (rn.idxP_calls _ _ M.f4 proc b6 _ (Kd.C_below GP.out (below_step HB0.out HB9.out)) LP.out B69.out).mono ?_; rintro e w10 ⟨rfl, hb10⟩; rw [HK.out]; have HB10 := za (below_step HB9.out hb10); have B810 := za (blk_below B89.out hb10); clear hb10 e4' c0 c1 c2 c3 c4 c5 c6 c7 f0 f1 f2 f3 f4 f5 f6 f7; have e4' := ((below_step HB0.out HB10.out).cell (World.block_lt_of_cell? w0 _ E4.out)).trans E4.out; have c0 := (blk_cell B810.out 0).trans rfl; have c1 := (blk_cell B810.out 1).trans rfl; have c2 := (blk_cell B810.out 2).trans rfl; have c3 := (blk_cell B810.out 3).trans rfl; have c4 := (blk_cell B810.out 4).trans rfl; have c5 := (blk_cell B810.out 5).trans rfl; have c6 := (blk_cell B810.out 6).trans rfl; have c7 := (blk_cell B810.out 7).trans rfl; have f0 := blk_frozen B810.out 0; have f1 := blk_frozen B810.out 1; have f2 := blk_frozen B810.out 2; have f3 := blk_frozen B810.out 3; have f4 := blk_frozen B810.out 4; have f5 := blk_frozen B810.out 5; have f6 := blk_frozen B810.out 6; have f7 := blk_frozen B810.out 7; have g0 := ((below_step HB0.out HB10.out).cell (World.block_lt_of_cell? w0 _ G0.out)).trans G0.out; have g1 := ((below_step HB0.out HB10.out).cell (World.block_lt_of_cell? w0 _ G1.out)).trans G1.out; have g2 := ((below_step HB0.out HB10.out).cell (World.block_lt_of_cell? w0 _ G2.out)).trans G2.out; have g3 := ((below_step HB0.out HB10.out).cell (World.block_lt_of_cell? w0 _ G3.out)).trans G3.out; have g4 := ((below_step HB0.out HB10.out).cell (World.block_lt_of_cell? w0 _ G4.out)).trans G4.out; have g5 := ((below_step HB0.out HB10.out).cell (World.block_lt_of_cell? w0 _ G5.out)).trans G5.out; have g6 := ((below_step HB0.out HB10.out).cell (World.block_lt_of_cell? w0 _ G6.out)).trans G6.out; have g7 := ((below_step HB0.out HB10.out).cell (World.block_lt_of_cell? w0 _ G7.out)).trans G7.out)
    refine bodyPost_ret (results_ct rfl _ _ b8 44 (rn.pcs P A1 d1 A5 d5 A6 d6) (0, 0) _ rfl (rn.blk8 B810.out _ _ _ _ _ _ _ _) hu44 rfl zq13) rfl ?_
    have h := H.out
    unfold rn.find at h
    rw [HI.out, if_neg (Int.not_lt.2 HN.out), HMd.out, HK.out, if_neg (Int.not_lt.2 KN.out), HP.out, if_pos HNN.out] at h
    cases h
    exact ⟨A1, d1, A5, d5, A6, d6, rfl, PVV.out, rn.below8 HB10.out G8'.out _ _ _ _ _ _ _ _⟩
   ·
    have hnb : ((P.f1.length : Int) == (n : Int)) = false := beq_eq_false_iff_ne.mpr hn
    have hnb2 : ((P.f1.length : Int) != (n : Int)) = true := bne_iff_ne.mpr hn
    have HNN := za hn
    clear hn
    go_wp2_with (go_at_call 36; refine (rn.idxP_calls _ _ M.f4 proc b6 _ (Kd.C_below GP.out (below_step HB0.out HB9.out)) LP.out B69.out).mono ?_; rintro e w10 ⟨rfl, hb10⟩; rw [HK.out]; have HB10 := za (below_step HB9.out hb10); have B810 := za (blk_below B89.out hb10); clear hb10 e4' c0 c1 c2 c3 c4 c5 c6 c7 f0 f1 f2 f3 f4 f5 f6 f7; have e4' := ((below_step HB0.out HB10.out).cell (World.block_lt_of_cell? w0 _ E4.out)).trans E4.out; have c0 := (blk_cell B810.out 0).trans rfl; have c1 := (blk_cell B810.out 1).trans rfl; have c2 := (blk_cell B810.out 2).trans rfl; have c3 := (blk_cell B810.out 3).trans rfl; have c4 := (blk_cell B810.out 4).trans rfl; have c5 := (blk_cell B810.out 5).trans rfl; have c6 := (blk_cell B810.out 6).trans rfl; have c7 := (blk_cell B810.out 7).trans rfl; have f0 := blk_frozen B810.out 0; have f1 := blk_frozen B810.out 1; have f2 := blk_frozen B810.out 2; have f3 := blk_frozen B810.out 3; have f4 := blk_frozen B810.out 4; have f5 := blk_frozen B810.out 5; have f6 := blk_frozen B810.out 6; have f7 := blk_frozen B810.out 7; have g1 := ((below_step HB0.out HB10.out).cell (World.block_lt_of_cell? w0 _ G1.out)).trans G1.out)
    refine bodyPost_ret (results_ct rfl _ _ b8 44 #[.string (⟨#[]⟩ : ByteArray), .slice none 0 0, .bool false, .string (⟨#[]⟩ : ByteArray), .string (⟨#[]⟩ : ByteArray), .slice none 0 0, .slice none 0 0, .int .i64 0] (0, 0) _ rfl (rn.blk8 B810.out _ _ _ _ _ _ _ _) hu44 rfl zq13) rfl ?_
    have h := H.out
    unfold rn.find at h
    rw [HI.out, if_neg (Int.not_lt.2 HN.out), HMd.out, HK.out, if_neg (Int.not_lt.2 KN.out), HP.out, if_neg HNN.out] at h
    cases h
    exact ⟨none, 0, none, 0, none, 0, rfl, rn.PV.zero w0, rn.below8 HB10.out G8'.out _ _ _ _ _ _ _ _⟩
end
structure rn.SV (w : World) (s : S91) (A8 : Option Addr) (c8 : Nat) (A9 : Option Addr) (c9 : Nat) (A10 : Option Addr) (c10 : Nat) (A11 : Option Addr) (c11 : Nat) : Prop where
 l8 : s.f8.length ≤ c8
 g8 : k140.C w A8 s.f8.length s.f8
 l9 : s.f9.length ≤ c9
 g9 : (Kd.slice 140 k140).C w A9 s.f9.length s.f9
 l10 : s.f10.length ≤ c10
 g10 : k91.C w A10 s.f10.length s.f10
 l11 : s.f11.length ≤ c11
 g11 : k91.C w A11 s.f11.length s.f11
structure rn.Stp (W W' : World) (br bf : Nat) (vx vx' : Value) : Prop where
 k : Kept W W' (fun k => k = br ∨ k = bf ∨ vx.ownBlock = some k)
 x : ∀ k, vx'.ownBlock = some k → vx.ownBlock = some k ∨ W.heap.size ≤ k
section
section
variable {w0 W W' W2 : World} {br bf : Nat} {vx vx' vx2 : Value}
theorem rn.Stp.refl (W : World) (br bf : Nat) (vx : Value) : rn.Stp W W br bf vx vx := ⟨Kept.refl _ _, fun _ h => .inl h⟩
theorem rn.Stp.of_below (h : Below W.heap.size W W') : rn.Stp W W' br bf vx vx := ⟨Kept.of_below h _, fun _ h => .inl h⟩
theorem rn.Stp.trans (h : rn.Stp W W' br bf vx vx') (g : rn.Stp W' W2 br bf vx' vx2) : rn.Stp W W2 br bf vx vx2 :=
 ⟨h.k.then_ g.k (fun k hk => by
   rcases hk with e | e | e
   ·
    exact .inl (.inl e)
   ·
    exact .inl (.inr (.inl e))
   ·
    exact (h.x k e).elim (fun z => .inl (.inr (.inr z))) .inr),
  fun k e => (g.x k e).elim (h.x k) (fun z => .inr (Nat.le_trans h.k.1 z))⟩
theorem rn.Stp.below (h : rn.Stp W W' br bf vx vx') (hb : Below W'.heap.size W' W2) : rn.Stp W W2 br bf vx vx' := h.trans (rn.Stp.of_below hb)
theorem rn.Stp.keep (h : rn.Stp W W' br bf vx vx') (hk : KeepBut W' W2 br none) : rn.Stp W W2 br bf vx vx' := ⟨h.k.of_keep hk (.inl (.inl rfl)), h.x⟩
theorem rn.Stp.cutx {A : Option Addr} {N n c : Nat} (h : rn.Stp W W' br bf vx (.slice A N c)) : rn.Stp W W' br bf vx (.slice A n c) := ⟨h.k, fun k e => h.x k (by cases A <;> exact e)⟩
theorem rn.Stp.setf (h : rn.Stp W W' br bf vx vx') (j : Nat) (u : Value) : rn.Stp W (W'.setCell ⟨bf, j, none⟩ u) br bf vx vx' := ⟨h.k.setCell (.inl (.inr (.inl rfl))) u, h.x⟩
end
abbrev rn.scs (s : S91) (A8 : Option Addr) (c8 : Nat) (A9 : Option Addr) (c9 : Nat) (A10 : Option Addr) (c10 : Nat) (A11 : Option Addr) (c11 : Nat) : Array Value := #[.int .i64 s.f0, .int .i64 s.f1, .string s.f2, .string s.f3, .string s.f4, .bool s.f5, .string s.f6, .string s.f7, .slice A8 s.f8.length c8, .slice A9 s.f9.length c9, .slice A10 s.f10.length c10, .slice A11 s.f11.length c11]
abbrev rn.RT := Int × List S61 × Int
def rn.StmtOk (w0 : World) (br : Nat) (l : List S39) (AL : Option Addr) (cL : Nat) (m : List S61) (tr : List ByteArray) (vm vt : Value) (bf : Nat) (mod : ByteArray) (f : S91 → rn.RT → Option (Bool × rn.RT)) : Prop :=
 ∀ (s : S91) (W : World) (fu fu' : Int) (loc loc' : List S61) (res res' : Int) (vx : Value) (b : Bool) (A8 : Option Addr) (c8 : Nat) (A9 : Option Addr) (c9 : Nat) (A10 : Option Addr) (c10 : Nat) (A11 : Option Addr) (c11 : Nat),
  rn.ST w0 W br bf l AL cL mod m fu tr loc res vm vt vx → rn.SV w0 s A8 c8 A9 c9 A10 c10 A11 c11 → f s (fu, loc, res) = some (b, fu', loc', res') →
  Calls Try.prog 52 #[.pointer (some ⟨br, 0, none⟩), .pointer (some ⟨bf, 0, none⟩), .agg (rn.scs s A8 c8 A9 c9 A10 c10 A11 c11)] W fun e w' => ∃ vx', e = .returned (.bool b) ∧ rn.ST w0 w' br bf l AL cL mod m fu' tr loc' res' vm vt vx' ∧ rn.Stp W w' br bf vx vx'
end
section
def rn.blk (f : S91 → rn.RT → Option (Bool × rn.RT)) (n : Nat) : List S91 → rn.RT → Option (Bool × rn.RT)
 | [], st => if n ≤ st.2.1.length then some (true, st.1, st.2.1.take n, st.2.2) else none
 | s :: t, st => (f s st).bind fun q => if q.1 = true then rn.blk f n t q.2 else some (false, q.2)
theorem rn.below12 {g : Nat} {w W : World} (h : Below w.heap.size w W) (hg : w.heap.size ≤ g) (u0 u1 u2 u3 u4 u5 u6 u7 u8 u9 u10 u11 : Value) :
  Below w.heap.size w ((((((((((((W.setCell ⟨g, 0, none⟩ (u0)).setCell ⟨g, 1, none⟩ (u1)).setCell ⟨g, 2, none⟩ (u2)).setCell ⟨g, 3, none⟩ (u3)).setCell ⟨g, 4, none⟩ (u4)).setCell ⟨g, 5, none⟩ (u5)).setCell ⟨g, 6, none⟩ (u6)).setCell ⟨g, 7, none⟩ (u7)).setCell ⟨g, 8, none⟩ (u8)).setCell ⟨g, 9, none⟩ (u9)).setCell ⟨g, 10, none⟩ (u10)).setCell ⟨g, 11, none⟩ (u11)) :=
 below_set (below_set (below_set (below_set (below_set (below_set (below_set (below_set (below_set (below_set (below_set (below_set h hg) hg) hg) hg) hg) hg) hg) hg) hg) hg) hg) hg
theorem rn.drop_at (l : List S91) (x : Int) (h0 : 0 ≤ x) (h1 : x < (l.length : Int)) : l.drop x.toNat = rd_T91 l x :: l.drop (x + 1).toNat := by
 have h : x.toNat < l.length := by omega
 rw [List.drop_eq_getElem_cons h, show (x + 1).toNat = x.toNat + 1 by omega]
 simp [rd_T91, List.getD_eq_getElem?_getD, h]
theorem rn.ST.cut {w0 W : World} {br bf : Nat} {l : List S39} {AL : Option Addr} {cL : Nat} {mod : ByteArray} {m : List S61} {fu : Int} {tr : List ByteArray} {loc : List S61} {res : Int} {vm vt : Value} {A : Option Addr} {N c : Nat} (x : rn.ST w0 W br bf l AL cL mod m fu tr loc res vm vt (.slice A N c)) (n : Nat) (hn : n ≤ loc.length) :
  rn.ST w0 (W.setCell ⟨bf, 1, none⟩ (.slice A n c)) br bf l AL cL mod m fu tr (loc.take n) res vm vt (.slice A n c) :=
 have hb : (Value.slice A N c).ownBlock = (Value.slice A n c).ownBlock := by cases A <;> rfl
 ⟨below_set x.hB x.gf, blk_far x.hr x.ne _, blk_put x.hf 1 _ rfl, Kd.R_set (by rw [← hb]; exact x.hm) x.hf (by decide) 1 _, Kd.R_set x.ht x.hf (by decide) 1 _, Kd.R_set (Kd.R_take x.hx hn) x.hf (by decide) 1 _, x.gr, x.gf⟩
def rn.BlockOk (w0 : World) (br : Nat) (l : List S39) (AL : Option Addr) (cL : Nat) (m : List S61) (tr : List ByteArray) (vm vt : Value) (bf : Nat) (mod : ByteArray) (f : S91 → rn.RT → Option (Bool × rn.RT)) : Prop :=
 ∀ (B : List S91) (AB : Option Addr) (cB : Nat) (W : World) (fu fu' : Int) (loc loc' : List S61) (res res' : Int) (vx : Value) (b : Bool),
  rn.ST w0 W br bf l AL cL mod m fu tr loc res vm vt vx → k91.C w0 AB B.length B → rn.blk f loc.length B (fu, loc, res) = some (b, fu', loc', res') →
  Calls Try.prog 38 #[.pointer (some ⟨br, 0, none⟩), .pointer (some ⟨bf, 0, none⟩), .slice AB B.length cB] W fun e w' => ∃ vx', e = .returned (.bool b) ∧ rn.ST w0 w' br bf l AL cL mod m fu' tr loc' res' vm vt vx' ∧ rn.Stp W w' br bf vx vx'
set_option maxRecDepth 100000 in
set_option maxHeartbeats 8000000 in
theorem rn.block_calls (w0 : World) (br : Nat) (l : List S39) (AL : Option Addr) (cL : Nat) (m : List S61) (tr : List ByteArray) (vm vt : Value) (bf : Nat) (mod : ByteArray) (f : S91 → rn.RT → Option (Bool × rn.RT)) (hf : rn.StmtOk w0 br l AL cL m tr vm vt bf mod f) : rn.BlockOk w0 br l AL cL m tr vm vt bf mod f := by
 intro B AB cB W fu fu' loc loc' res res' vx b x hB h
 have hu91 := Try.underlying91
 have X0 := za x
 have HB := za hB
 have H := za h
 have HF := za hf
 have hmB := Kd.C_max hB
 obtain ⟨d0, d1, d2, g1, g2⟩ := x.cf
 obtain ⟨Ax, cx, ex⟩ := Kd.R_slice x.hx
 subst ex
 have hmx := Kd.C_max (Kd.R_reads' x.hx).2.2
 obtain ⟨N0, hN0⟩ : ∃ N0, N0 = loc.length := ⟨_, rfl⟩
 have HN := za hN0
 rw [← hN0] at d1 hmx
 clear x hB h hf hN0
 go_enter Try.func38, Try.ntmps38
 go_wp2
 clear d0 d1 d2 g1 g2
 go_loopw [17] (fun i wr => ∃ (x : Int) (fu1 : Int) (loc1 : List S61) (res1 : Int) (vx1 : Value), i = .int .i64 x ∧ 0 ≤ x ∧ x ≤ (B.length : Int) ∧ Aside0 (rn.blk f N0 (B.drop x.toNat) (fu1, loc1, res1) = some (b, fu', loc', res')) ∧ Aside0 (rn.ST w0 wr br bf l AL cL mod m fu1 tr loc1 res1 vm vt vx1) ∧ Aside0 (rn.Stp W wr br bf (.slice Ax loc.length cx) vx1)) (fun i _ => B.length - (intOf i).toNat)
 case atStart => exact ⟨0, fu, loc, res, _, rfl, by omega, by omega, ⟨by rw [HN.out]; exact H.out⟩, X0, ⟨rn.Stp.refl _ _ _ _⟩⟩
 case round =>
  obtain ⟨x, fu1, loc1, res1, vx1, rfl, h0, h1, HI, XR, SR⟩ := hrel
  by_cases hlt : x < (B.length : Int)
  ·
   have p0 := eq_true h0
   have p1 := eq_true hlt
   have hI := HI.out
   rw [rn.drop_at B x h0 hlt] at hI
   unfold rn.blk at hI
   obtain ⟨⟨b2, fu2, loc2, res2⟩, hs, hJ⟩ := Option.bind_eq_some_iff.mp hI
   dsimp only at hJ
   clear hI
   obtain ⟨ad, A8, c8, A9, c9, A10, c10, A11, c11, ea, hx0, hx1, hx2, hx3, hx4, hx5, hx6, hx7, hx8, hx9, hx10, hx11, l8, q8, l9, q9, l10, q10, l11, q11⟩ := at_T91 HB.out x h0 hlt
   cases ea
   generalize hsd : rd_T91 B x = s at *
   have Y : Aside0 (rn.SV w0 s A8 c8 A9 c9 A10 c10 A11 c11) := ⟨⟨l8, q8, l9, q9, l10, q10, l11, q11⟩⟩
   have HS := za hs
   have HI2 := za hJ
   clear hs hJ l8 q8 l9 q9 l10 q10 l11 q11 hsd
   replace hx0 := (XR.out.hB.cell (World.block_lt_of_cell? w0 _ hx0)).trans hx0
   replace hx1 := (XR.out.hB.cell (World.block_lt_of_cell? w0 _ hx1)).trans hx1
   replace hx2 := (XR.out.hB.cell (World.block_lt_of_cell? w0 _ hx2)).trans hx2
   replace hx3 := (XR.out.hB.cell (World.block_lt_of_cell? w0 _ hx3)).trans hx3
   replace hx4 := (XR.out.hB.cell (World.block_lt_of_cell? w0 _ hx4)).trans hx4
   replace hx5 := (XR.out.hB.cell (World.block_lt_of_cell? w0 _ hx5)).trans hx5
   replace hx6 := (XR.out.hB.cell (World.block_lt_of_cell? w0 _ hx6)).trans hx6
   replace hx7 := (XR.out.hB.cell (World.block_lt_of_cell? w0 _ hx7)).trans hx7
   replace hx8 := (XR.out.hB.cell (World.block_lt_of_cell? w0 _ hx8)).trans hx8
   replace hx9 := (XR.out.hB.cell (World.block_lt_of_cell? w0 _ hx9)).trans hx9
   replace hx10 := (XR.out.hB.cell (World.block_lt_of_cell? w0 _ hx10)).trans hx10
   replace hx11 := (XR.out.hB.cell (World.block_lt_of_cell? w0 _ hx11)).trans hx11
   cases b2 with
   | false =>
    have hI := HI2.out
    rw [if_neg Bool.false_ne_true] at hI
    simp only [Option.some.injEq, Prod.mk.injEq] at hI
    obtain ⟨rfl, rfl, rfl, rfl⟩ := hI
    go_wp2_with (first | ((with_reducible refine gate_dst (N := 9) rfl ?_); refine box_event ?hg (N := 9) ?hd (cs := #[.int .i64 0, .int .i64 0, .string (⟨#[]⟩ : ByteArray), .string (⟨#[]⟩ : ByteArray), .string (⟨#[]⟩ : ByteArray), .bool false, .string (⟨#[]⟩ : ByteArray), .string (⟨#[]⟩ : ByteArray), .slice none 0 0, .slice none 0 0, .slice none 0 0, .slice none 0 0]) (t := 91) ?hr ?_; (case hd => rfl); (case hg => rfl); (case hr => exact zq21); intro b9 hg9 w9 hx9b hb9; have HB9 := za hb9; have G9 := za (Nat.le_of_eq hg9.symm); have k0 := (blk_cell hx9b 0).trans rfl; have j0 := blk_frozen hx9b 0; have k1 := (blk_cell hx9b 1).trans rfl; have j1 := blk_frozen hx9b 1; have k2 := (blk_cell hx9b 2).trans rfl; have j2 := blk_frozen hx9b 2; have k3 := (blk_cell hx9b 3).trans rfl; have j3 := blk_frozen hx9b 3; have k4 := (blk_cell hx9b 4).trans rfl; have j4 := blk_frozen hx9b 4; have k5 := (blk_cell hx9b 5).trans rfl; have j5 := blk_frozen hx9b 5; have k6 := (blk_cell hx9b 6).trans rfl; have j6 := blk_frozen hx9b 6; have k7 := (blk_cell hx9b 7).trans rfl; have j7 := blk_frozen hx9b 7; have k8 := (blk_cell hx9b 8).trans rfl; have j8 := blk_frozen hx9b 8; have k9 := (blk_cell hx9b 9).trans rfl; have j9 := blk_frozen hx9b 9; have k10 := (blk_cell hx9b 10).trans rfl; have j10 := blk_frozen hx9b 10; have k11 := (blk_cell hx9b 11).trans rfl; have j11 := blk_frozen hx9b 11; clear hx9b hb9 hg9) | (go_at_call 52; refine (HF.out s _ fu1 fu2 loc1 loc2 res1 res2 vx1 false A8 c8 A9 c9 A10 c10 A11 c11 (XR.out.below (rn.below12 HB9.out G9.out _ _ _ _ _ _ _ _ _ _ _ _)) Y.out HS.out).mono ?_; rintro e w10 ⟨vx2, rfl, hx, hs⟩; have X10 := za hx; have S10 := za ((SR.out.below (rn.below12 HB9.out G9.out _ _ _ _ _ _ _ _ _ _ _ _)).trans hs); clear hx hs hx0 hx1 hx2 hx3 hx4 hx5 hx6 hx7 hx8 hx9 hx10 hx11 k0 j0 k1 j1 k2 j2 k3 j3 k4 j4 k5 j5 k6 j6 k7 j7 k8 j8 k9 j9 k10 j10 k11 j11))
    go_ret
    exact ⟨_, rfl, X10.out, S10.out⟩
   | true =>
    have hI := HI2.out
    rw [if_pos rfl] at hI
    have HI3 := za hI
    clear hI
    go_wp2_with (first | ((with_reducible refine gate_dst (N := 9) rfl ?_); refine box_event ?hg (N := 9) ?hd (cs := #[.int .i64 0, .int .i64 0, .string (⟨#[]⟩ : ByteArray), .string (⟨#[]⟩ : ByteArray), .string (⟨#[]⟩ : ByteArray), .bool false, .string (⟨#[]⟩ : ByteArray), .string (⟨#[]⟩ : ByteArray), .slice none 0 0, .slice none 0 0, .slice none 0 0, .slice none 0 0]) (t := 91) ?hr ?_; (case hd => rfl); (case hg => rfl); (case hr => exact zq21); intro b9 hg9 w9 hx9b hb9; have HB9 := za hb9; have G9 := za (Nat.le_of_eq hg9.symm); have k0 := (blk_cell hx9b 0).trans rfl; have j0 := blk_frozen hx9b 0; have k1 := (blk_cell hx9b 1).trans rfl; have j1 := blk_frozen hx9b 1; have k2 := (blk_cell hx9b 2).trans rfl; have j2 := blk_frozen hx9b 2; have k3 := (blk_cell hx9b 3).trans rfl; have j3 := blk_frozen hx9b 3; have k4 := (blk_cell hx9b 4).trans rfl; have j4 := blk_frozen hx9b 4; have k5 := (blk_cell hx9b 5).trans rfl; have j5 := blk_frozen hx9b 5; have k6 := (blk_cell hx9b 6).trans rfl; have j6 := blk_frozen hx9b 6; have k7 := (blk_cell hx9b 7).trans rfl; have j7 := blk_frozen hx9b 7; have k8 := (blk_cell hx9b 8).trans rfl; have j8 := blk_frozen hx9b 8; have k9 := (blk_cell hx9b 9).trans rfl; have j9 := blk_frozen hx9b 9; have k10 := (blk_cell hx9b 10).trans rfl; have j10 := blk_frozen hx9b 10; have k11 := (blk_cell hx9b 11).trans rfl; have j11 := blk_frozen hx9b 11; clear hx9b hb9 hg9) | (go_at_call 52; refine (HF.out s _ fu1 fu2 loc1 loc2 res1 res2 vx1 true A8 c8 A9 c9 A10 c10 A11 c11 (XR.out.below (rn.below12 HB9.out G9.out _ _ _ _ _ _ _ _ _ _ _ _)) Y.out HS.out).mono ?_; rintro e w10 ⟨vx2, rfl, hx, hs⟩; have X10 := za hx; have S10 := za ((SR.out.below (rn.below12 HB9.out G9.out _ _ _ _ _ _ _ _ _ _ _ _)).trans hs); clear hx hs hx0 hx1 hx2 hx3 hx4 hx5 hx6 hx7 hx8 hx9 hx10 hx11 k0 j0 k1 j1 k2 j2 k3 j3 k4 j4 k5 j5 k6 j6 k7 j7 k8 j8 k9 j9 k10 j10 k11 j11))
    go_roundw
    case rel => exact ⟨x + 1, fu2, loc2, res2, vx2, by go_num, by omega, by omega, HI3, X10, S10⟩
    case measure => simp [intOf]; omega
  ·
   have hI := HI.out
   rw [List.drop_eq_nil_of_le (by omega)] at hI
   unfold rn.blk at hI
   dsimp only at hI
   by_cases hn : N0 ≤ loc1.length
   case neg => rw [if_neg hn] at hI; cases hI
   rw [if_pos hn] at hI
   simp only [Option.some.injEq, Prod.mk.injEq] at hI
   obtain ⟨rfl, rfl, rfl, rfl⟩ := hI
   obtain ⟨A1, k1, e1⟩ := Kd.R_slice XR.out.hx
   subst e1
   have hk1 := (Kd.R_reads' XR.out.hx).2.1
   have hn1 : (N0 : Int) ≤ (loc1.length : Int) := by omega
   have hn2 : (0 : Int) ≤ (N0 : Int) := by omega
   have hn3 : (N0 : Int) ≤ (k1 : Int) := by omega
   obtain ⟨i0, hi0, _, hsz, _⟩ := info_parts info61
   have hcut := cut_to (P := Try.prog) 24 61 .i64 Try.underlying24 hi0 A1 loc1.length k1 (N0 : Int) hn2 hn1 hk1
   rw [show ((N0 : Int)).toNat = N0 from by omega] at hcut
   obtain ⟨d0, d1, d2, g1, g2⟩ := XR.out.cf
   have HNN := za hn
   clear hn hi0 hsz
   go_wp2
   go_ret
   exact ⟨rfl, _, XR.out.cut N0 HNN.out, (SR.out.setf 1 _).cutx⟩
end
section
open Go.Shelf
attribute [local go_sem] Oper.semAt_some
section
abbrev rn.bkencs (zs : List S61) (x : Fin zs.length) : Array Value := eval_name.encs (eval_name.back zs x.val)
set_option maxRecDepth 100000 in
set_option maxHeartbeats 4000000 in
theorem rn.bk_in (F : Fence) (n : Nat) (h80 : F.fn 78) (hro : F.round = none) (hn : 1 ≤ n) (l Bs : Nat) (A : Option Addr) (cap : Nat) (zs : List S61) (w0 : World) (hC : Kd.C k61 w0 A zs.length zs) (hlen : zs.length ≤ 140737488355328) (J Jx : List (Fin zs.length) → World → Prop)
  (hY : ∀ pre x W, J pre W → pre.length < zs.length → YieldAt F (n - 1) Try.prog l (rn.bkencs zs x) W fun e W' =>
   (e = .returned (.bool true) ∧ J (pre ++ [x]) W' ∧ Below w0.heap.size W W') ∨ (e = .returned (.bool false) ∧ Jx (pre ++ [x]) W'))
  (W : World) (hB0 : Below w0.heap.size w0 W) (hBs0 : Bs < w0.heap.size) (hBs : w0.cell? ⟨Bs, 0, none⟩ = some (.slice A zs.length cap)) (h0 : J [] W) :
  CallsIn F n Try.prog 78 #[.func (.yield l) #[] #[], .pointer (some ⟨Bs, 0, none⟩)] W fun e W' => (∃ v, e = .returned v) ∧
   ((∃ ys, ys.map (·.val) = List.range zs.length ∧ J ys W') ∨ (∃ pre, (∃ k, pre.map (·.val) = List.range (k + 1)) ∧ Jx pre W')) := by
 have HC := za hC
 have HBs := za hBs
 have hb1 := (hB0.cell (p := ⟨Bs, 0, none⟩) hBs0).trans hBs
 have HB0 := za hB0
 clear hC hBs hB0
 refine callsIn_of_wp Try.func78 rfl h80 ?_ hro
 simp only [Try.ntmps78, List.size_toArray, List.length_cons, List.length_nil, Nat.reduceAdd, Nat.reduceSub, Array.replicate_succ, Array.replicate_zero, List.push_toArray, List.append_toArray, List.nil_append, List.cons_append]
 gi_wp2
 clear hb1
 gi_loopw [3] (fun i wr => ∃ (k : Nat) (x : Int) (pre : List (Fin zs.length)), Aside0 (x = (zs.length : Int) - 1 - (k : Int)) ∧ -1 ≤ x ∧ x < (zs.length : Int) ∧ k ≤ zs.length ∧ i = .int .i64 x ∧ pre.map (·.val) = List.range k ∧ J pre wr ∧ Aside0 (Below w0.heap.size w0 wr))
  (fun i _ => (intOf i + 1).toNat)
 case atStart => exact ⟨0, _, [], ⟨by simp⟩, by omega, by omega, Nat.zero_le _, rfl, rfl, h0, HB0⟩
 case round =>
  obtain ⟨k, x, pre, HX, hx0, hx1, hk, rfl, hpl, hJs, HB⟩ := hrel
  have hbr := (HB.out.cell (p := ⟨Bs, 0, none⟩) hBs0).trans HBs.out
  by_cases hlt : 0 ≤ x
  ·
   have hkl : k < zs.length := by have := HX.out; omega
   obtain ⟨ad, ea, e0, e1, e2⟩ := at_T61 HC.out x hlt hx1
   cases ea
   replace e0 := (HB.out.cell (World.block_lt_of_cell? w0 _ e0)).trans e0
   replace e1 := (HB.out.cell (World.block_lt_of_cell? w0 _ e1)).trans e1
   replace e2 := (HB.out.cell (World.block_lt_of_cell? w0 _ e2)).trans e2
   have hpn : pre.length = k := by have h := congrArg List.length hpl; simpa using h
   have hY1 := hY pre ⟨k, hkl⟩ wr hJs (by omega)
   have hbk : rn.bkencs zs ⟨k, hkl⟩ = eval_name.encs (x, rd_T61 zs x) := by unfold rn.bkencs eval_name.back; rw [← HX.out]
   rw [hbk] at hY1
   obtain ⟨fn, tmps, assign, rn.body, hy, hR⟩ := hY1
   have p0 := eq_true hlt
   have p1 := eq_true hx1
   have HPL := za hpl
   have HPX : Aside0 ((pre ++ [(⟨k, hkl⟩ : Fin zs.length)]).map (·.val) = List.range (k + 1)) := ⟨by rw [List.map_append, hpl, List.range_succ]; rfl⟩
   clear hpl hpn hbk
   gi_wp2
   refine hR.mono ?_
   rintro e W3 (⟨rfl, hJ3, hk3⟩ | ⟨rfl, hJx3⟩)
   ·
    gi_wp2
    go_roundw
    case rel => exact ⟨k + 1, x - 1, _, ⟨by have := HX.out; omega⟩, by omega, by omega, hkl, by go_num, HPX.out, hJ3, ⟨HB.out.trans hk3⟩⟩
    case measure => simp [intOf]; omega
   ·
    gi_wp2
    refine bodyPost_ret (results_none rfl _ _ _) rfl ?_
    exact ⟨⟨_, rfl⟩, .inr ⟨_, ⟨k, HPX.out⟩, hJx3⟩⟩
  ·
   gi_wp2
   go_end0
   have hkn : k = zs.length := by have := HX.out; omega
   subst hkn
   exact ⟨⟨_, rfl⟩, .inl ⟨_, hpl, hJs⟩⟩
theorem rn.bk_stops (F : Fence) (n : Nat) (h80 : F.fn 78) (hro : F.round = none) (hn : 1 ≤ n) (Bs : Nat) (A : Option Addr) (cap : Nat) (zs : List S61) (hlen : zs.length ≤ 140737488355328) (w : World) (hBs : Bs < w.heap.size) (hc : w.cell? ⟨Bs, 0, none⟩ = some (.slice A zs.length cap)) (hC : Kd.C k61 w A zs.length zs) :
  SeqStopsK F n Try.prog 78 #[.pointer (some ⟨Bs, 0, none⟩)] (rn.bkencs zs) (Below w.heap.size) (fun ys => ys.map (·.val) = List.range zs.length) (fun pre => ∃ k, pre.map (·.val) = List.range (k + 1)) zs.length w := fun l J Jx W hW _ _ hY h0 =>
 rn.bk_in F n h80 hro hn l Bs A cap zs w hC hlen J Jx hY W hW hBs hc h0
end
end
section
open Go.Shelf
attribute [local go_sem] Oper.semAt_some
section
theorem rn.ST.own {w0 W W' : World} {br bf : Nat} {l : List S39} {AL : Option Addr} {cL : Nat} {mod : ByteArray} {m : List S61} {fu : Int} {tr : List ByteArray} {loc : List S61} {res : Int} {vm vt vx : Value} {row : Option Nat} (x : rn.ST w0 W br bf l AL cL mod m fu tr loc res vm vt vx) (hg : W.grownBy W' row) (hr : ∀ r, row = some r → w0.heap.size ≤ r ∧ ∃ o : Obj, W.heap[r]? = some o ∧ o.isCells = false) : rn.ST w0 W' br bf l AL cL mod m fu tr loc res vm vt vx :=
 have hn : ∀ {g : Nat} {t : TypeId} {cs : Array Value} {p : Nat × Nat}, W.heap[g]? = some (.cells cs t p) → some g ≠ row := fun h e => by obtain ⟨_, o, ho, hc⟩ := hr _ e.symm; rw [h] at ho; injection ho with ho; rw [← ho] at hc; cases hc
 ⟨pw_below_grown x.hB _ x.sz hg (fun k e => (hr k e).1), blk_grown x.hr hg (hn x.hr), blk_grown x.hf hg (hn x.hf),
  Kd.R_mono (Kd.R_grown (Kd.R_bound x.hm) hg (fun k hk => by obtain ⟨_, _, _, q, _, cs, hc⟩ := hk; exact hn hc)) (fun _ hk => hk.1),
  Kd.R_mono (Kd.R_grown (Kd.R_bound x.ht) hg (fun k hk => by obtain ⟨_, _, _, q, _, cs, hc⟩ := hk; exact hn hc)) (fun _ hk => hk.1),
  Kd.R_mono (Kd.R_grown (Kd.R_bound x.hx) hg (fun k hk => by obtain ⟨_, _, _, q, _, cs, hc⟩ := hk; exact hn hc)) (fun _ hk => hk.1), x.gr, x.gf⟩
theorem rn.Stp.own {W W' W2 : World} {br bf : Nat} {vx vx' : Value} {row : Option Nat} (h : rn.Stp W W' br bf vx vx') (hg : W'.grownBy W2 row) (hr : ∀ r, row = some r → W.heap.size ≤ r) : rn.Stp W W2 br bf vx vx' :=
 ⟨Kept.of_grown hg h.k (fun k e => .inr (hr k e)), h.x⟩
theorem rn.wpAnyIn_round {F : Fence} {n : Nat} {P : Program} {md : Region.Mode} {ops : Array Oper} {Q : Exit → Act → World → Prop} (l : Nat) (hnd : (ops.toList.all fun o => match o.op with | .defer _ => false | _ => true) = true) : ∀ (fuel : Nat) (listed : Array Bool) (a : Act) (w : World), F.round = none → wpAnyIn F n P md ops Q fuel listed a w → wpAnyIn (F.inRound l) n P md ops Q fuel listed a w
 | 0, _, _, _, _, h => h
 | fuel + 1, listed, a, w, hro, h => ⟨h.1, fun i hi => by
  have h2 := wpOpIn_mono (fun a w h => rn.wpAnyIn_round l hnd fuel _ a w hro h) (h.2 i hi)
  unfold wpOpIn at h2 ⊢
  cases ho : ops[i]? with
  | none => rw [ho] at h2; exact h2
  | some o =>
   rw [ho] at h2
   dsimp only at h2 ⊢
   have hd : ∀ c, o.op ≠ .defer c := fun c e => by
    have hm : o ∈ ops.toList := by
     obtain ⟨hlt, he⟩ := Array.getElem?_eq_some_iff.1 ho
     rw [← he]; simp
    have h3 := List.all_eq_true.1 hnd o hm
    rw [e] at h3
    cases h3
   by_cases hw : Region.wanted o (yielded ops a.tmps) = true
   ·
    rw [if_pos hw] at h2 ⊢
    refine ⟨h2.1, ?_⟩
    have h4 := h2.2
    rw [Oper.semAt_eq _ _ _ hd] at h4 ⊢
    generalize (execOp a.eval o).run P w = r at h4 ⊢
    cases r with
    | ok x w' => cases x <;> exact h4
    | halt x w' => cases x <;> exact h4
   ·
    rw [if_neg hw] at h2 ⊢
    exact h2⟩
def rn.setl (loc : List S61) (i : Int) (v : Int) : List S61 := loc.set i.toNat ⟨(rd_T61 loc i).f0, (rd_T61 loc i).f1, v⟩
def rn.setlast (name : ByteArray) (loc : List S61) (v : Int) : Nat → Option (List S61)
 | 0 => none
 | n + 1 => if (rd_T61 loc (n : Int)).f1.toList = name.toList then some (rn.setl loc (n : Int) v) else rn.setlast name loc v n
def rn.setn (mod name : ByteArray) (v : Int) (loc : List S61) : Option (List S61) :=
 if mod.toList = ([] : List UInt8) then (if loc.length ≤ 140737488355328 then rn.setlast name loc v loc.length else none) else none
theorem rn.setlast_spec {name : ByteArray} {loc loc2 : List S61} {v : Int} : ∀ {n : Nat}, rn.setlast name loc v n = some loc2 → ∃ j : Nat, j < n ∧ (rd_T61 loc (j : Int)).f1.toList = name.toList ∧ loc2 = rn.setl loc (j : Int) v ∧ ∀ i : Nat, j < i → i < n → ¬ (rd_T61 loc (i : Int)).f1.toList = name.toList
 | 0, h => by cases h
 | n + 1, h => by
  unfold rn.setlast at h
  by_cases e : (rd_T61 loc (n : Int)).f1.toList = name.toList
  ·
   rw [if_pos e] at h
   injection h with h
   exact ⟨n, by omega, e, h.symm, fun i h1 h2 => by omega⟩
  ·
   rw [if_neg e] at h
   obtain ⟨j, h1, h2, h3, h4⟩ := rn.setlast_spec h
   exact ⟨j, by omega, h2, h3, fun i g1 g2 => by
    by_cases hi : i = n
    ·
     rw [hi]; exact e
    ·
     exact h4 i g1 (by omega)⟩
theorem rn.ST.loc {w0 W : World} {br bf : Nat} {l : List S39} {AL : Option Addr} {cL : Nat} {mod : ByteArray} {m : List S61} {fu : Int} {tr : List ByteArray} {loc : List S61} {res : Int} {vm vt : Value} {A : Option Addr} {N c : Nat} (x : rn.ST w0 W br bf l AL cL mod m fu tr loc res vm vt (.slice A N c)) (i : Int) (h0 : 0 ≤ i) (h1 : i < (loc.length : Int)) (v : Int) :
  ∃ ad, A = some ad ∧ W.cell? ⟨(ad.add (i.toNat * 3)).block, (ad.add (i.toNat * 3)).off + 2, none⟩ = some (.int .i64 (rd_T61 loc i).f2) ∧ W.frozen? ⟨(ad.add (i.toNat * 3)).block, (ad.add (i.toNat * 3)).off + 2, none⟩ = false ∧
   rn.ST w0 (W.setCell ⟨(ad.add (i.toNat * 3)).block, (ad.add (i.toNat * 3)).off + 2, none⟩ (.int .i64 v)) br bf l AL cL mod m fu tr (rn.setl loc i v) res vm vt (.slice A N c) ∧ rn.Stp W (W.setCell ⟨(ad.add (i.toNat * 3)).block, (ad.add (i.toNat * 3)).off + 2, none⟩ (.int .i64 v)) br bf (.slice A N c) (.slice A N c) := by
 obtain ⟨hn, hnc, hC⟩ := Kd.R_reads' x.hx
 obtain ⟨g, cap, ev, hbg, hgl, cells, hcs⟩ := Kd.R_form x.hx (by omega)
 injection ev with eA eN ec
 subst eA
 obtain ⟨ad, ea, e0, e1, e2⟩ := at_T61 hC i h0 (by omega)
 injection ea with ea
 subst ea
 have ep : (⟨((⟨g, 0, none⟩ : Addr).add (i.toNat * 3)).block, ((⟨g, 0, none⟩ : Addr).add (i.toNat * 3)).off + 2, none⟩ : Addr) = ⟨g, i.toNat * 3 + 2, none⟩ := by
  unfold Addr.add
  by_cases hi : i.toNat * 3 = 0 <;> simp [hi]
 have ep0 : ((⟨g, 0, none⟩ : Addr).add (i.toNat * 3)) = ⟨g, i.toNat * 3, none⟩ := by
  unfold Addr.add
  by_cases hi : i.toNat * 3 = 0 <;> simp [hi]
 rw [ep0] at e0 e1 e2
 dsimp only at e0 e1 e2
 obtain ⟨hR, hg⟩ := Kd.R_seg (seg := [.int .i64 v]) (j := 2) (x' := ⟨(rd_T61 loc i).f0, (rd_T61 loc i).f1, v⟩) (okp := fun _ => False) x.hx i h0 (by omega) (c := [.string (rd_T61 loc i).f0, .string (rd_T61 loc i).f1, .int .i64 (rd_T61 loc i).f2]) rfl (fun j u hj => by
   match j, hj with
   | 0, hj => injection hj with hj; rw [← hj]; exact e0
   | 1, hj => injection hj with hj; rw [← hj]; exact e1
   | 2, hj => injection hj with hj; rw [← hj]; exact e2
   | j + 3, hj => simp at hj) (Nat.le_refl 3) (k61_mkM _ _ _ (⟨(rd_T61 loc i).f0, (rd_T61 loc i).f1, v⟩ : S61)) (fun _ hk => hk.elim)
 change k61.R 61 (W.setCell ⟨g, i.toNat * 3 + 2, none⟩ (.int .i64 v)) _ _ _ _ at hR
 change W.grownBy (W.setCell ⟨g, i.toNat * 3 + 2, none⟩ (.int .i64 v)) (some g) at hg
 refine ⟨_, rfl, ?_, ?_, ?_, ?_⟩
 ·
  rw [ep]; exact e2
 ·
  rw [ep]; exact blk_frozen hcs _
 ·
  rw [ep]
  exact ⟨below_set x.hB hbg, blk_grown x.hr hg (Kd.R_ne x.hx x.hr (by decide)), blk_grown x.hf hg (Kd.R_ne x.hx x.hf (by decide)), Kd.R_mono (Kd.R_grown (Kd.R_bound x.hm) hg (fun _ hk => hk.1)) (fun _ hk => hk.1), Kd.R_over x.ht x.hx (by decide) hg, hR, x.gr, x.gf⟩
 ·
  rw [ep]
  exact ⟨(Kept.refl _ _).setCell (.inl (.inr (.inr rfl))) _, fun _ h => .inl h⟩
end
end
section
open Go.Shelf
attribute [local go_sem] Oper.semAt_some
section
set_option maxRecDepth 100000 in
set_option maxHeartbeats 8000000 in
theorem rn.set_calls {w0 w : World} {br bf : Nat} {l : List S39} {AL : Option Addr} {cL : Nat} {fm mod name : ByteArray} {v : Int} {m : List S61} {fu : Int} {tr : List ByteArray} {loc loc' : List S61} {res : Int} {vm vt vx : Value}
  (x : rn.ST w0 w br bf l AL cL fm m fu tr loc res vm vt vx) (h : rn.setn mod name v loc = some loc') :
  Calls Try.prog 59 #[.pointer (some ⟨br, 0, none⟩), .pointer (some ⟨bf, 0, none⟩), .string mod, .string name, .int .i64 v] w fun e w' => ∃ e0, e = .returned e0 ∧ rn.ST w0 w' br bf l AL cL fm m fu tr loc' res vm vt vx ∧ rn.Stp w w' br bf vx vx := by
 unfold rn.setn at h
 have X0 := za x
 obtain ⟨Ax, cx, ex⟩ := Kd.R_slice x.hx
 subst ex
 have HX := za (Kd.R_reads' x.hx).2.2
 obtain ⟨d0, d1, d2, g1, g2⟩ := x.cf
 clear x
 refine (callsIn_wide (n := 3)).1 ?_
 have hB3 : Below w.heap.size w (((w.alloc (.cells #[.pointer (some ⟨bf, 0, none⟩)] 96)).alloc (.cells #[.string name] 9)).alloc (.cells #[.int .i64 v] 3)) := (((Below.refl _ w).alloc (Nat.le_refl _) _).alloc (by simp) _).alloc (by simp; omega) _
 have e1 := pw_cell_below hB3 d1
 have HB3 := za hB3
 clear hB3
 have hF : Fence.wide.fn 59 := trivial
 have h52 : Fence.wide.fn 69 := trivial
 have h80 : Fence.wide.fn 78 := trivial
 have hro : Fence.wide.round = none := rfl
 have h1 : 1 ≤ 3 := by omega
 refine callsIn_of_wp_marks Try.func59 rfl hF ?_ hro
 simp only [Try.ntmps59, List.size_toArray, List.length_cons, List.length_nil, Nat.reduceAdd, Nat.reduceSub, Array.replicate_succ, Array.replicate_zero, List.push_toArray, List.append_toArray, List.nil_append, List.cons_append]
 by_cases hm : mod.toList = ([] : List UInt8)
 case neg => rw [if_neg hm] at h; cases h
 ·
  rw [if_pos hm] at h
  have hmb : mod.toList.isEmpty = true := by rw [hm]; rfl
  by_cases hl : loc.length ≤ 140737488355328
  case neg => rw [if_neg hl] at h; cases h
  rw [if_pos hl] at h
  have H := za (rn.setlast_spec h)
  have HL := za hl
  clear h hm hl
  gi_wp2_with (gi_at_call 69; refine (eval_name.back_in Fence.wide 2 h52 hro _ _ _ _).mono ?_; rintro e w' ⟨rfl, rfl⟩)
  have hB0 : Below w.heap.size w ((((w.alloc (.cells #[.pointer (some ⟨bf, 0, none⟩)] 96)).alloc (.cells #[.string name] 9)).alloc (.cells #[.int .i64 v] 3)).alloc (.cells #[.slice Ax loc.length cx] 24)) := HB3.out.alloc (by simp; omega) _
  have hsz : ((((w.alloc (.cells #[.pointer (some ⟨bf, 0, none⟩)] 96)).alloc (.cells #[.string name] 9)).alloc (.cells #[.int .i64 v] 3)).alloc (.cells #[.slice Ax loc.length cx] 24)).heap.size = w.heap.size + 4 := by simp
  have q6 : ((((w.alloc (.cells #[.pointer (some ⟨bf, 0, none⟩)] 96)).alloc (.cells #[.string name] 9)).alloc (.cells #[.int .i64 v] 3)).alloc (.cells #[.slice Ax loc.length cx] 24)).cell? ⟨w.heap.size, 0, none⟩ = some (.pointer (some ⟨bf, 0, none⟩)) := (blk_cell (blk_alloc (blk_alloc (blk_alloc (blk_new w (.cells #[.pointer (some ⟨bf, 0, none⟩)] 96)) _) _) _) 0).trans rfl
  have q8 : ((((w.alloc (.cells #[.pointer (some ⟨bf, 0, none⟩)] 96)).alloc (.cells #[.string name] 9)).alloc (.cells #[.int .i64 v] 3)).alloc (.cells #[.slice Ax loc.length cx] 24)).cell? ⟨w.heap.size + 1, 0, none⟩ = some (.string name) := (blk_cell (blk_alloc (blk_alloc (by have := blk_new (w.alloc (.cells #[.pointer (some ⟨bf, 0, none⟩)] 96)) (.cells #[.string name] 9); simpa using this) _) _) 0).trans rfl
  have q9 : ((((w.alloc (.cells #[.pointer (some ⟨bf, 0, none⟩)] 96)).alloc (.cells #[.string name] 9)).alloc (.cells #[.int .i64 v] 3)).alloc (.cells #[.slice Ax loc.length cx] 24)).cell? ⟨w.heap.size + 1 + 1, 0, none⟩ = some (.int .i64 v) := (blk_cell (blk_alloc (by have := blk_new ((w.alloc (.cells #[.pointer (some ⟨bf, 0, none⟩)] 96)).alloc (.cells #[.string name] 9)) (.cells #[.int .i64 v] 3); simpa using this) _) 0).trans rfl
  have b3 : Boxed ((((w.alloc (.cells #[.pointer (some ⟨bf, 0, none⟩)] 96)).alloc (.cells #[.string name] 9)).alloc (.cells #[.int .i64 v] 3)).alloc (.cells #[.slice Ax loc.length cx] 24)) (w.heap.size + 1 + 1 + 1) 24 (.slice Ax loc.length cx) := by
   have := Boxed.new (((w.alloc (.cells #[.pointer (some ⟨bf, 0, none⟩)] 96)).alloc (.cells #[.string name] 9)).alloc (.cells #[.int .i64 v] 3)) 24 (.slice Ax loc.length cx)
   simpa only [World.size_alloc] using this
  obtain ⟨W0, hW0⟩ : ∃ W0, (((w.alloc (.cells #[.pointer (some ⟨bf, 0, none⟩)] 96)).alloc (.cells #[.string name] 9)).alloc (.cells #[.int .i64 v] 3)).alloc (.cells #[.slice Ax loc.length cx] 24) = W0 := ⟨_, rfl⟩
  rw [hW0] at hB0 hsz q6 q8 q9 b3 ⊢
  clear hW0 e1 d0 d1 d2 g1 g2
  refine wpIn_rangeFunc_ownH hro h1 (gf := 78) (lb := #[.pointer (some ⟨w.heap.size + 1 + 1 + 1, 0, none⟩)]) rfl h80 (enters_of Try.func78 zq13 rfl)
   (rn.bk_stops Fence.wide (3 - 1) h80 hro (by omega) (w.heap.size + 1 + 1 + 1) Ax cx loc HL.out W0 (by omega) b3.cell (Kd.C_below HX.out hB0)) belowK_t (belowK_b (Nat.le_refl _)) (Below.refl _ _) (fun _ => rfl)
   (fun pre W => (Aside0 (∀ y ∈ pre, ¬ (eval_name.back loc y.val).2.f1.toList = name.toList) ∧ W.cell? ⟨w.heap.size, 0, none⟩ = some (.pointer (some ⟨bf, 0, none⟩)) ∧ W.cell? ⟨w.heap.size + 1, 0, none⟩ = some (.string name) ∧ W.cell? ⟨w.heap.size + 1 + 1, 0, none⟩ = some (.int .i64 v) ∧ W0.heap.size ≤ W.heap.size) ∧ Below w.heap.size w W)
   (fun c pre W => c = .ret ∧ ∃ ini x, pre = ini ++ [x] ∧ (∀ y ∈ ini, ¬ (eval_name.back loc y.val).2.f1.toList = name.toList) ∧ (eval_name.back loc x.val).2.f1.toList = name.toList ∧ rn.ST w0 W br bf l AL cL fm m fu tr (rn.setl loc (eval_name.back loc x.val).1 v) res vm vt (.slice Ax loc.length cx) ∧ rn.Stp w W br bf (.slice Ax loc.length cx) (.slice Ax loc.length cx))
   (OwnFrom.and (Own.from (fun s A B row hs hg hr => ⟨hs.1, cell_kept hs.2.1 hg hr, cell_kept hs.2.2.1 hg hr, cell_kept hs.2.2.2.1 hg hr, Nat.le_trans hs.2.2.2.2 hg.size⟩) _) (ownFrom_below (Nat.le_refl _) (by omega)))
   (fun c s A B row hs hg hr => by obtain ⟨hc, ini, x, e1, e2, e3, e4, e5⟩ := hs; exact ⟨hc, ini, x, e1, e2, e3, e4.own hg (fun r e => ⟨Nat.le_trans X0.out.sz (by have := (hr r e).1; omega), (hr r e).2⟩), e5.own hg (fun r e => by have := (hr r e).1; omega)⟩)
   ⟨⟨⟨fun _ h => by cases h⟩, q6, q8, q9, Nat.le_refl _⟩, hB0⟩
   (fun x a' W => ∃ Bx, w.heap.size + 2 < Bx ∧ (W.cell? ⟨Bx, 1, none⟩ = some (.string (eval_name.back loc x.val).2.f1)) ∧ a' = { tmps := #[.pointer (some ⟨br, 0, none⟩), .pointer (some ⟨bf, 0, none⟩), .string mod, .string name, .int .i64 v, undef, .pointer (some ⟨w.heap.size, 0, none⟩), undef, .pointer (some ⟨w.heap.size + 1, 0, none⟩), .pointer (some ⟨w.heap.size + 1 + 1, 0, none⟩), .int .i64 (eval_name.back loc x.val).1, .pointer (some ⟨Bx, 0, none⟩), .string mod, .bool true, .pointer (some ⟨bf, 0, none⟩), .pointer (some ⟨bf, 0, none⟩), .pointer (some ⟨bf, 1, none⟩), .slice Ax loc.length cx, .func (.func 78) #[] #[.pointer (some ⟨w.heap.size + 1 + 1 + 1, 0, none⟩)], .int .i64 (eval_name.back loc x.val).1, .agg #[.string (eval_name.back loc x.val).2.f0, .string (eval_name.back loc x.val).2.f1, .int .i64 (eval_name.back loc x.val).2.f2], undef, undef, undef, undef, undef, undef, undef, undef, undef, undef, undef, undef, undef, undef, undef, undef, undef, undef, undef, undef, undef, undef, undef, undef, undef, undef, undef, undef, undef, undef], defers := [] })
   (fun x a' _ X Y row hs hg hr => by obtain ⟨Bx, h1, h2, h4⟩ := hs; exact ⟨Bx, h1, cell_kept h2 hg (fun r e => (hr r e).2), h4⟩)
   ?assign ?rn.body ?done ?stop
  case assign =>
   rintro l pre x W K ⟨⟨hN, hq6, hq8, hq9, hsW⟩, hB1⟩ hK
   gi_wp2
   have hp := eval_name.put_below W (eval_name.back loc x.val).2
   have hc := eval_name.put_blk W (eval_name.back loc x.val).2
   exact hK _ (eval_name.put W (eval_name.back loc x.val).2) ((eval_name.put_keeps W _).from _) (hp.mono hsW) ⟨⟨hN, pw_cell_below hp hq6, pw_cell_below hp hq8, pw_cell_below hp hq9, Nat.le_trans hsW hp.size⟩, below_step hB1 hp⟩ ⟨W.heap.size, by omega, (blk_cell hc 1).trans rfl, rfl⟩
  case rn.body =>
   rintro l pre x a' W hl ⟨r, hr⟩ ⟨⟨hN, hq6, hq8, hq9, hsW⟩, hB1⟩ ⟨Bx, hBx, g1, rfl⟩ hlt
   have HN := za hN.out
   have HB1 := za hB1
   clear hB1 hN
   by_cases hx : (eval_name.back loc x.val).2.f1.toList = name.toList
   ·
    have hxb : ((eval_name.back loc x.val).2.f1.toList == name.toList) = true := beq_iff_eq.mpr hx
    have HXX := za hx
    clear hx
    have XB := X0.out.below HB1.out
    have hq1 : W.cell? ⟨bf, 1, none⟩ = some (.slice Ax loc.length cx) := (blk_cell XB.hf 1).trans rfl
    have i0 : 0 ≤ (eval_name.back loc x.val).1 := by have := x.isLt; show 0 ≤ (loc.length : Int) - 1 - (x.val : Int); omega
    have i1 : (eval_name.back loc x.val).1 < (loc.length : Int) := by have := x.isLt; show (loc.length : Int) - 1 - (x.val : Int) < _; omega
    obtain ⟨ad, ea, ec, ef, eST, eSt⟩ := XB.loc _ i0 i1 v
    cases ea
    have EST := za (eST.below (below_drew (Below.refl _ _)))
    have ESt := za (((rn.Stp.of_below HB1.out).trans eSt).below (below_drew (Below.refl _ _)))
    have p0 := eq_true i0
    have p1 := eq_true i1
    clear eST eSt XB
    gi_wp2
    refine wpIn_region_any zq13 (rn.wpAnyIn_round _ zq13 _ _ _ _ rfl ?_)
    change wpAnyIn _ _ _ _ _ _ 9 #[false, false, false, false, false, false, false, false, false] _ (W.drew)
    have hq6' : W.drew.cell? ⟨w.heap.size, 0, none⟩ = some (.pointer (some ⟨bf, 0, none⟩)) := hq6
    have hq9' : W.drew.cell? ⟨w.heap.size + 1 + 1, 0, none⟩ = some (.int .i64 v) := hq9
    have hq1' : W.drew.cell? ⟨bf, 1, none⟩ = some (.slice (some ad) loc.length cx) := hq1
    change W.drew.cell? _ = _ at ec
    change W.drew.frozen? _ = _ at ef
    refine wpAnyIn_take (i := 4) (v := .int .i64 (eval_name.back loc x.val).1) rfl rfl zq13 zq13 zq13 (fun _ _ _ h => h) ⟨.inl ⟨rfl, fun _ => rfl⟩, fun _ => rfl⟩ ?_
    simp only [Act.put, List.setIfInBounds_toArray, List.set_cons_zero, List.set_cons_succ]
    refine wpAnyIn_ready (rs := [0, 5]) zq13 (by simp) (AllReadyIn.cons rfl (fun K hK => ?_) (AllReadyIn.cons rfl (fun K hK => ?_) AllReadyIn.nil))
    ·
     go_simp
     refine hK _ _ ?_
     clear hK K
     refine wpAnyIn_take (i := 1) (v := .pointer (some ⟨bf, 0, none⟩)) rfl rfl zq13 zq13 zq13 (fun _ _ _ h => h) ⟨.inl ⟨rfl, fun _ => rfl⟩, fun _ => rfl⟩ ?_; simp only [Act.put, List.setIfInBounds_toArray, List.set_cons_zero, List.set_cons_succ]
     refine wpAnyIn_take (i := 2) (v := .pointer (some ⟨bf, 1, none⟩)) rfl rfl zq13 zq13 zq13 (fun _ _ _ h => h) ⟨.inl ⟨rfl, fun _ => rfl⟩, fun _ => rfl⟩ ?_; simp only [Act.put, List.setIfInBounds_toArray, List.set_cons_zero, List.set_cons_succ]
     refine wpAnyIn_ready (rs := [3, 5]) zq13 (by simp) (AllReadyIn.cons rfl (fun K hK => ?_) (AllReadyIn.cons rfl (fun K hK => ?_) AllReadyIn.nil))
     ·
      go_simp
      refine hK _ _ ?_
      clear hK K
      refine wpAnyIn_ready (rs := [5]) zq13 (by simp) (AllReadyIn.cons rfl (fun K hK => ?_) AllReadyIn.nil); go_simp; refine hK _ _ ?_; clear hK K
      refine wpAnyIn_ready (rs := [6]) zq13 (by simp) (AllReadyIn.cons rfl (fun K hK => ?_) AllReadyIn.nil); go_simp; refine hK _ _ ?_; clear hK K
      refine wpAnyIn_ready (rs := [7]) zq13 (by simp) (AllReadyIn.cons rfl (fun K hK => ?_) AllReadyIn.nil); go_simp; refine hK _ _ ?_; clear hK K
      refine wpAnyIn_ready (rs := [8]) zq13 (by simp) (AllReadyIn.cons rfl (fun K hK => ?_) AllReadyIn.nil); go_simp; refine hK _ _ ?_; clear hK K
      refine wpAnyIn_done zq13 ?_ 0
      gi_wp2
      exact ⟨⟨(KeepsOthers.setCell W _ _).size, fun k o _ hk ho => (KeepsOthers.setCell W _ _).same k o hk ho⟩, rfl, pre, x, rfl, HN.out, HXX.out, EST.out, ESt.out⟩
     ·
      go_simp
      refine hK _ _ ?_
      clear hK K
      refine wpAnyIn_ready (rs := [3]) zq13 (by simp) (AllReadyIn.cons rfl (fun K hK => ?_) AllReadyIn.nil); go_simp; refine hK _ _ ?_; clear hK K
      refine wpAnyIn_ready (rs := [6]) zq13 (by simp) (AllReadyIn.cons rfl (fun K hK => ?_) AllReadyIn.nil); go_simp; refine hK _ _ ?_; clear hK K
      refine wpAnyIn_ready (rs := [7]) zq13 (by simp) (AllReadyIn.cons rfl (fun K hK => ?_) AllReadyIn.nil); go_simp; refine hK _ _ ?_; clear hK K
      refine wpAnyIn_ready (rs := [8]) zq13 (by simp) (AllReadyIn.cons rfl (fun K hK => ?_) AllReadyIn.nil); go_simp; refine hK _ _ ?_; clear hK K
      refine wpAnyIn_done zq13 ?_ 0
      gi_wp2
      exact ⟨⟨(KeepsOthers.setCell W _ _).size, fun k o _ hk ho => (KeepsOthers.setCell W _ _).same k o hk ho⟩, rfl, pre, x, rfl, HN.out, HXX.out, EST.out, ESt.out⟩
    ·
     go_simp
     refine hK _ _ ?_
     clear hK K
     refine wpAnyIn_ready (rs := [0]) zq13 (by simp) (AllReadyIn.cons rfl (fun K hK => ?_) AllReadyIn.nil); go_simp; refine hK _ _ ?_; clear hK K
     refine wpAnyIn_ready (rs := [1]) zq13 (by simp) (AllReadyIn.cons rfl (fun K hK => ?_) AllReadyIn.nil); go_simp; refine hK _ _ ?_; clear hK K
     refine wpAnyIn_ready (rs := [2]) zq13 (by simp) (AllReadyIn.cons rfl (fun K hK => ?_) AllReadyIn.nil); go_simp; refine hK _ _ ?_; clear hK K
     refine wpAnyIn_ready (rs := [3]) zq13 (by simp) (AllReadyIn.cons rfl (fun K hK => ?_) AllReadyIn.nil); go_simp; refine hK _ _ ?_; clear hK K
     refine wpAnyIn_ready (rs := [6]) zq13 (by simp) (AllReadyIn.cons rfl (fun K hK => ?_) AllReadyIn.nil); go_simp; refine hK _ _ ?_; clear hK K
     refine wpAnyIn_ready (rs := [7]) zq13 (by simp) (AllReadyIn.cons rfl (fun K hK => ?_) AllReadyIn.nil); go_simp; refine hK _ _ ?_; clear hK K
     refine wpAnyIn_ready (rs := [8]) zq13 (by simp) (AllReadyIn.cons rfl (fun K hK => ?_) AllReadyIn.nil); go_simp; refine hK _ _ ?_; clear hK K
     refine wpAnyIn_done zq13 ?_ 0
     gi_wp2
     exact ⟨⟨(KeepsOthers.setCell W _ _).size, fun k o _ hk ho => (KeepsOthers.setCell W _ _).same k o hk ho⟩, rfl, pre, x, rfl, HN.out, HXX.out, EST.out, ESt.out⟩
   ·
    have hxb : ((eval_name.back loc x.val).2.f1.toList == name.toList) = false := beq_eq_false_iff_ne.mpr hx
    have HXX := za hx
    clear hx
    gi_wp2
    exact ⟨KeepsFrom.refl _ _, Below.refl _ _, ⟨⟨fun y hy => by rcases List.mem_append.1 hy with h | h; exact HN.out y h; rw [List.mem_singleton.1 h]; exact HXX.out⟩, hq6, hq8, hq9, hsW⟩, HB1.out⟩
  case done =>
   rintro D ys W hD hys ⟨⟨hN, hq6, hq8, hq9, hsW⟩, hB1⟩ hK
   obtain ⟨j, j1, j2, _, _⟩ := H.out
   have hm : loc.length - 1 - j ∈ ys.map (·.val) := by rw [hys]; exact List.mem_range.2 (by omega)
   obtain ⟨y, hy, hyv⟩ := List.mem_map.1 hm
   refine absurd j2 ?_
   have h1 := hN.out y hy
   unfold eval_name.back at h1
   dsimp only at h1 hyv
   rw [hyv, show ((loc.length : Int) - 1 - ((loc.length - 1 - j : Nat) : Int)) = (j : Int) by omega] at h1
   exact h1
  case stop =>
   rintro D c pre W hD ⟨k, hk⟩ ⟨rfl, ini, x, rfl, e2, e3, e4, e5⟩ hK
   obtain ⟨j, j1, j2, j3, j4⟩ := H.out
   have hlen := congrArg List.length hk
   rw [List.map_append, List.range_succ] at hk
   obtain ⟨hk1, hk2⟩ := List.append_inj' hk rfl
   have hxk : x.val = k := by simpa using hk2
   have hxl := x.isLt
   have hj : (eval_name.back loc x.val).1 = (j : Int) := by
    have h1 : ¬ j > loc.length - 1 - x.val := fun h => by
     have hm : loc.length - 1 - j ∈ ini.map (·.val) := by rw [hk1]; exact List.mem_range.2 (by omega)
     obtain ⟨y, hy, hyv⟩ := List.mem_map.1 hm
     have h1 := e2 y hy
     unfold eval_name.back at h1
     dsimp only at h1 hyv
     rw [hyv, show ((loc.length : Int) - 1 - ((loc.length - 1 - j : Nat) : Int)) = (j : Int) by omega] at h1
     exact h1 j2
    have h2 : ¬ j < loc.length - 1 - x.val := fun h => by
     refine j4 (loc.length - 1 - x.val) h (by omega) ?_
     unfold eval_name.back at e3
     dsimp only at e3
     rw [show (((loc.length - 1 - x.val : Nat)) : Int) = (loc.length : Int) - 1 - (x.val : Int) by omega]
     exact e3
    show (loc.length : Int) - 1 - (x.val : Int) = _
    omega
   rw [hj, ← j3] at e4
   have E4 := za e4
   have E5 := za e5
   have HK := za hK
   have HDW : Aside0 (w.heap.size ≤ D) := ⟨by omega⟩
   clear e2 e3 e4 e5 hj j2 j3 j4 hk hk1 hk2 hlen hK
   gi_wp2
   refine ⟨by simp, .inl ⟨_, _, rfl, run_takeDeferred HK.out, ?_⟩⟩
   refine ⟨.tuple #[], ?_, .tuple #[], rfl, E4.out.own (grownBy_putObj' _ D _) (fun r e => by cases e; exact ⟨Nat.le_trans X0.out.sz HDW.out, _, HK.out, rfl⟩), E5.out.own (grownBy_putObj' _ D _) (fun r e => by cases e; exact HDW.out)⟩
   simp [results, Try.f59, go_sem]
end
end
structure rn.RU (w0 W : World) (br : Nat) (l : List S39) (AL : Option Addr) (cL : Nat) (m : List S61) (fu : Int) (tr : List ByteArray) (vm vt : Value) : Prop where
 hB : Below w0.heap.size w0 W
 hr : W.heap[br]? = some (.cells #[.slice AL l.length cL, vm, .int .i64 fu, vt] 71 (0, 0))
 hm : k61.R 61 W w0.heap.size (fun _ => True) vm m
 ht : Kd.string.R 9 W w0.heap.size (fun _ => True) vt tr
 gr : w0.heap.size ≤ br
section
section
variable {w0 W W' w1 : World} {br bf : Nat} {l : List S39} {AL : Option Addr} {cL : Nat} {mod : ByteArray} {m m' : List S61} {fu fu' : Int} {tr tr' : List ByteArray} {loc loc' : List S61} {res res' : Int} {vm vt vx vm' vt' vx' v1 : Value}
theorem rn.ST.ru (x : rn.ST w0 W br bf l AL cL mod m fu tr loc res vm vt vx) : rn.RU w0 W br l AL cL m fu tr vm vt := ⟨x.hB, x.hr, Kd.R_mono x.hm (fun _ _ => trivial), x.ht, x.gr⟩
theorem rn.RU.below (x : rn.RU w0 W br l AL cL m fu tr vm vt) (hb : Below W.heap.size W W') : rn.RU w0 W' br l AL cL m fu tr vm vt :=
 ⟨below_then x.hB (below_size x.hB) hb, blk_below x.hr hb, Kd.R_below x.hm hb, Kd.R_below x.ht hb, x.gr⟩
theorem rn.RU.frame (x : rn.RU w0 W br l AL cL m fu tr vm vt) (hf : W.heap[bf]? = some (.cells #[.string mod, .slice none 0 0, .int .i64 0] 98 (0, 0))) (gf : w0.heap.size ≤ bf) : rn.ST w0 W br bf l AL cL mod m fu tr [] 0 vm vt (.slice none 0 0) :=
 ⟨x.hB, x.hr, hf, Kd.R_mono x.hm (fun _ _ => by simp [Value.ownBlock]), x.ht, Kd.R_nil _ _ _ _ _, x.gr, gf⟩
theorem rn.ST.app (x : rn.ST w0 W br bf l AL cL mod m fu tr loc res vm vt vx) (h1 : k61.R 61 w1 w0.heap.size (fun _ => True) v1 loc') (hB1 : Below w0.heap.size w0 w1) (hg : W.grownBy w1 vx.ownBlock) (hat : v1.ownBlock = vx.ownBlock ∨ ∃ b, v1.ownBlock = some b ∧ W.heap.size ≤ b) :
  rn.ST w0 (w1.setCell ⟨bf, 1, none⟩ v1) br bf l AL cL mod m fu tr loc' res vm vt v1 :=
 have hr1 := blk_grown x.hr hg (Kd.R_ne x.hx x.hr (by decide))
 have hf1 := blk_grown x.hf hg (Kd.R_ne x.hx x.hf (by decide))
 have hm1 := Kd.R_mono (Kd.R_grown (Kd.R_bound x.hm) hg (fun _ hk => hk.1)) (ok' := fun k => some k ≠ v1.ownBlock) (fun k hk => by
  rcases hat with e | ⟨b, e, hb⟩
  ·
   rw [e]; exact hk.1
  ·
   rw [e]; intro z; injection z with z; have := hk.2.2.1; omega)
 ⟨below_set hB1 x.gf, blk_far hr1 x.ne _, blk_put hf1 1 _ rfl, Kd.R_set hm1 hf1 (by decide) 1 _, Kd.R_set (Kd.R_over x.ht x.hx (by decide) hg) hf1 (by decide) 1 _, Kd.R_set h1 hf1 (by decide) 1 _, x.gr, x.gf⟩
theorem rn.fresh_step {v : Value} {n s : Nat} (h : ∀ k, v.ownBlock = some k → n ≤ k) (hle : n ≤ s) (hat : v1.ownBlock = v.ownBlock ∨ ∃ b, v1.ownBlock = some b ∧ s ≤ b) : ∀ k, v1.ownBlock = some k → n ≤ k := by
 intro k hk
 rcases hat with e | ⟨b, e, hb⟩
 ·
  exact h k (by rw [← e]; exact hk)
 ·
  rw [e] at hk
  injection hk with hk
  omega
theorem rn.below3 {g : Nat} {w W : World} (h : Below w.heap.size w W) (hg : w.heap.size ≤ g) (u0 u1 u2 : Value) : Below w.heap.size w (((W.setCell ⟨g, 0, none⟩ u0).setCell ⟨g, 1, none⟩ u1).setCell ⟨g, 2, none⟩ u2) := below_set (below_set (below_set h hg) hg) hg
end
def rn.locs (ps : List S100) (args : List Int) : List S61 := List.zipWith (fun p a => (⟨(⟨#[]⟩ : ByteArray), p.f0, a⟩ : S61)) ps args
theorem rn.locs_at (ps : List S100) (args : List Int) (x : Int) (h0 : 0 ≤ x) (h1 : x < (ps.length : Int)) (h2 : ps.length = args.length) : (rn.locs ps args).take (x + 1).toNat = (rn.locs ps args).take x.toNat ++ [⟨(⟨#[]⟩ : ByteArray), (rd_T100 ps x).f0, rd args x⟩] := by
 have a1 : x.toNat < ps.length := by omega
 have a2 : x.toNat < args.length := by omega
 have a3 : x.toNat < (rn.locs ps args).length := by simp [rn.locs]; omega
 rw [show (x + 1).toNat = x.toNat + 1 by omega, List.take_succ_eq_append_getElem a3]
 simp [rn.locs, rd_T100, rd, List.getD_eq_getElem?_getD, a1, a2]
def rn.body (f : S91 → rn.RT → Option (Bool × rn.RT)) (p : S44) (args : List Int) (fu : Int) : Option (Int × Bool × Int) :=
 if p.f1.length < 3518437208000 then (rn.blk f p.f1.length p.f6 (fu, rn.locs p.f1 args, 0)).bind fun q => some (q.2.2.2, q.1, q.2.1) else none
set_option maxRecDepth 100000 in
set_option maxHeartbeats 8000000 in
theorem rn.body_calls (w0 : World) (br : Nat) (l : List S39) (AL : Option Addr) (cL : Nat) (m : List S61) (tr : List ByteArray) (vm vt : Value) (mod : ByteArray) (f : S91 → rn.RT → Option (Bool × rn.RT)) (hf : ∀ bf, rn.StmtOk w0 br l AL cL m tr vm vt bf mod f)
  (p : S44) (A1 : Option Addr) (c1 : Nat) (A5 : Option Addr) (c5 : Nat) (A6 : Option Addr) (c6 : Nat) (args : List Int) (AA : Option Addr) (cA : Nat) (W : World) (fu fu' : Int) (res : Int) (b : Bool)
  (x : rn.RU w0 W br l AL cL m fu tr vm vt) (y : rn.PV w0 p A1 c1 A5 c5 A6 c6) (hA : (Kd.int .i64).C W AA args.length args) (hn : p.f1.length = args.length) (h : rn.body f p args fu = some (res, b, fu')) :
  Calls Try.prog 28 #[.pointer (some ⟨br, 0, none⟩), .string mod, .agg (rn.pcs p A1 c1 A5 c5 A6 c6), .slice AA args.length cA] W fun e w' => e = .returned (.tuple #[.int .i64 res, .bool b]) ∧ rn.RU w0 w' br l AL cL m fu' tr vm vt ∧ Kept W w' (fun k => k = br) := by
 have hu44 := Try.underlying44
 have hu98 := Try.underlying98
 have hu100 := Try.underlying100
 unfold rn.body at h
 by_cases hpl : p.f1.length < 3518437208000
 case neg => rw [if_neg hpl] at h; cases h
 rw [if_pos hpl] at h
 obtain ⟨⟨b2, fu2, loc2, res2⟩, hb2, h⟩ := Option.bind_eq_some_iff.mp h
 simp only [Option.some.injEq, Prod.mk.injEq] at h
 obtain ⟨rfl, rfl, rfl⟩ := h
 have X0 := za x
 have Y0 := za y
 have HA := za hA
 have HN := za hn
 have HF := za hf
 have HP := za hpl
 have HQ := za hb2
 clear x y hA hf h hb2 hn hpl
 go_enter Try.func28, Try.ntmps28
 go_wp2_with (first | ((with_reducible refine gate_dst (N := 6) rfl ?_); refine box_event ?hg (N := 6) ?hd (cs := rn.pcs p A1 c1 A5 c5 A6 c6) (t := 44) ?hr ?_; (case hd => rfl); (case hg => rfl); (case hr => exact zq21); intro b6 hg6 w6 hx6 hb6; have HB6 := za hb6; have B6 := za hx6; clear hx6 hb6 hg6) | ((with_reducible refine gate_dst (N := 16) rfl ?_); refine box_event ?hg (N := 16) ?hd (cs := #[.string mod, .slice none 0 0, .int .i64 0]) (t := 98) ?hr ?_; (case hd => rfl); (case hg => rfl); (case hr => exact zq21); intro bf hgf wf hxf hbf; have HBF := za (below_step HB6.out hbf); have BF := za hxf; have GF := za (Nat.le_trans (below_size HB6.out) (Nat.le_of_eq hgf.symm)); have B6F := za (blk_below B6.out hbf); have e1 : wf.cell? ⟨b6, 1, none⟩ = some (.slice A1 p.f1.length c1) := (blk_cell B6F.out 1).trans rfl; clear hxf hbf hgf))
 have EF := za e1
 clear e1
 have hmP := Kd.C_max Y0.out.g1
 go_loopw [20] (fun i wr => ∃ (x : Int) (vx : Value), i = .int .i64 x ∧ 0 ≤ x ∧ x ≤ (p.f1.length : Int) ∧ Aside0 (rn.ST w0 wr br bf l AL cL mod m fu tr ((rn.locs p.f1 args).take x.toNat) 0 vm vt vx) ∧ Aside0 (Below W.heap.size W wr) ∧ Aside0 (∀ k, vx.ownBlock = some k → W.heap.size ≤ k) ∧ Aside0 (wr.heap[b6]? = some (.cells (rn.pcs p A1 c1 A5 c5 A6 c6) 44 (0, 0)))) (fun i _ => p.f1.length - (intOf i).toNat)
 case atStart => exact ⟨0, _, rfl, by omega, by omega, ⟨(X0.out.below HBF.out).frame BF.out (Nat.le_trans (below_size X0.out.hB) GF.out)⟩, HBF, ⟨fun k hk => by simp [Value.ownBlock] at hk⟩, B6F⟩
 case round =>
  obtain ⟨x, vx, rfl, h0, h1, XR, HBR, HVX, B6R⟩ := hrel
  by_cases hlt : x < (p.f1.length : Int)
  ·
   have p0 := eq_true h0
   have p1 := eq_true hlt
   have p2 : (x < (args.length : Int)) = True := eq_true (by have := HN.out; omega)
   obtain ⟨ad, ea, hx0, hx1, hx2⟩ := at_T100 Y0.out.g1 x h0 hlt
   obtain ⟨ax, eax, hax⟩ := Kd.at_int HA.out x h0 (by have := HN.out; omega)
   cases ea
   cases eax
   have HLA := za (rn.locs_at p.f1 args x h0 hlt HN.out)
   generalize hP : rd_T100 p.f1 x = P at *
   replace hx0 := (XR.out.hB.cell (World.block_lt_of_cell? w0 _ hx0)).trans hx0
   replace hx1 := (XR.out.hB.cell (World.block_lt_of_cell? w0 _ hx1)).trans hx1
   replace hx2 := (XR.out.hB.cell (World.block_lt_of_cell? w0 _ hx2)).trans hx2
   have HAX := za hax
   clear hax hP
   go_wp2_with (((with_reducible refine gate_dst (N := 12) rfl ?_); refine box_event ?hg (N := 12) ?hd (cs := #[.string (⟨#[]⟩ : ByteArray), .string (⟨#[]⟩ : ByteArray), .int .i64 0]) (t := 100) ?hr ?_; (case hd => rfl); (case hg => rfl); (case hr => exact zq21); intro b12 hg12 w12 hx12 hb12; have HB12 := za hb12; have B12 := za hx12; have G12 := za (Nat.le_of_eq hg12.symm); have k0 := (blk_cell hx12 0).trans rfl; have k1 := (blk_cell hx12 1).trans rfl; have k2 := (blk_cell hx12 2).trans rfl; have j0 := blk_frozen hx12 0; have j1 := blk_frozen hx12 1; have j2 := blk_frozen hx12 2; clear hx12 hb12 hg12))
   clear hx0 hx1 hx2 k0 k1 k2 j0 j1 j2
   have XS : Aside0 (rn.ST w0 (((w12.setCell ⟨b12, 0, none⟩ (.string P.f0)).setCell ⟨b12, 1, none⟩ (.string P.f1)).setCell ⟨b12, 2, none⟩ (.int .i64 P.f2)) br bf l AL cL mod m fu tr ((rn.locs p.f1 args).take x.toNat) 0 vm vt vx) := ⟨XR.out.below (rn.below3 HB12.out G12.out _ _ _)⟩
   have HBS : Aside0 (Below W.heap.size W (((w12.setCell ⟨b12, 0, none⟩ (.string P.f0)).setCell ⟨b12, 1, none⟩ (.string P.f1)).setCell ⟨b12, 2, none⟩ (.int .i64 P.f2))) := ⟨below_step HBR.out (rn.below3 HB12.out G12.out _ _ _)⟩
   have BS : Aside0 ((((w12.setCell ⟨b12, 0, none⟩ (.string P.f0)).setCell ⟨b12, 1, none⟩ (.string P.f1)).setCell ⟨b12, 2, none⟩ (.int .i64 P.f2)).heap[b12]? = some (.cells #[.string P.f0, .string P.f1, .int .i64 P.f2] 100 (0, 0))) := ⟨blk_put (blk_put (blk_put B12.out 0 _ rfl) 1 _ rfl) 2 _ rfl⟩
   have B6S : Aside0 ((((w12.setCell ⟨b12, 0, none⟩ (.string P.f0)).setCell ⟨b12, 1, none⟩ (.string P.f1)).setCell ⟨b12, 2, none⟩ (.int .i64 P.f2)).heap[b6]? = some (.cells (rn.pcs p (some ad) c1 A5 c5 A6 c6) 44 (0, 0))) := ⟨blk_below B6R.out (rn.below3 HB12.out G12.out _ _ _)⟩
   generalize ((w12.setCell ⟨b12, 0, none⟩ (.string P.f0)).setCell ⟨b12, 1, none⟩ (.string P.f1)).setCell ⟨b12, 2, none⟩ (.int .i64 P.f2) = ws at *
   obtain ⟨Ax, cx, ex⟩ := Kd.R_slice XS.out.hx
   subst ex
   obtain ⟨d0, d1, d2, g1, g2⟩ := XS.out.cf
   have e0 : ws.cell? ⟨b12, 0, none⟩ = some (.string P.f0) := (blk_cell BS.out 0).trans rfl
   have ea : ws.cell? (ax.add x.toNat) = some (.int .i64 (rd args x)) := (HBS.out.cell (World.block_lt_of_cell? W _ HAX.out)).trans HAX.out
   have hxl : ((rn.locs p.f1 args).take x.toNat).length ≤ 3518437208000 := by have := HP.out; simp [rn.locs]; omega
   generalize hxs : (rn.locs p.f1 args).take x.toNat = xs at *
   generalize hys : (rn.locs p.f1 args).take (x + 1).toNat = ys at *
   have HYS := za hys
   have HXL := za hxl
   clear hxl hxs hys
   have da1 : ∀ o, (ws.alloc o).cell? ⟨bf, 1, none⟩ = some (.slice Ax xs.length cx) := fun o => pw_cell_below (below_alloc (Below.refl _ _) o) d1
   have da2 : ∀ o, (ws.alloc o).cell? ⟨b12, 0, none⟩ = some (.string P.f0) := fun o => pw_cell_below (below_alloc (Below.refl _ _) o) e0
   have da3 : ∀ o, (ws.alloc o).cell? (ax.add x.toNat) = some (.int .i64 (rd args x)) := fun o => pw_cell_below (below_alloc (Below.refl _ _) o) ea
   go_region_law (first | (refine Kd.R_append_step k61 (w0 := w0) (W := ws.drew) w0.heap.size (by rfl) (.tmp 29) (.tmp 37) 24 61 (.agg #[(.string ⟨#[]⟩), (.string ⟨#[]⟩), (.int .i64 0)]) 40 rfl Try.underlying24 info61 rfl (by decide) (by omega) _ xs (⟨(⟨#[]⟩ : ByteArray), P.f0, rd args x⟩ : S61) [.string (⟨#[]⟩ : ByteArray), .string P.f0, .int .i64 (rd args x)] (fun _ => True) (fun _ => False) rfl rfl ?aP (fun _ hk => hk.elim) ?aF ?aO ?aB ?aS ?aL ?_; (case aP => exact k61_mkM _ _ _ (⟨(⟨#[]⟩ : ByteArray), P.f0, rd args x⟩ : S61)); (case aF => exact fun _ _ => trivial); (case aO => exact Kd.R_drew XS.out.hx); (case aB => exact below_drew XS.out.hB); (case aS => exact XS.out.sz); (case aL => have := HXL.out; omega); intro v1 w1 ho hb hg hat; rw [← HLA.out] at ho; obtain ⟨A9, c9, e9⟩ := Kd.R_slice ho; subst e9; have XS1 := za ((XS.out.below (below_drew (Below.refl _ _))).app ho hb hg hat); have HBW1 := za (below_set (g := bf) (j := 1) (v := .slice A9 ys.length c9) (pw_below_grown (below_drew HBS.out) _ (below_size (below_drew HBS.out)) hg (fun k hk => HVX.out k hk)) GF.out); have XD := XS.out.below (W' := ws.drew) (below_drew (Below.refl _ _)); have f1 := blk_frozen (blk_grown XD.hf hg (Kd.R_ne XD.hx XD.hf (by decide))) 1; have d1 := (blk_cell (blk_grown XD.hf hg (Kd.R_ne XD.hx XD.hf (by decide))) 1).trans rfl; have B6W := za (blk_far (blk_grown (blk_drew B6S.out) hg (Kd.R_ne XD.hx (blk_drew B6S.out) (by decide))) (p := ⟨bf, 1, none⟩) (blk_ne B6S.out XS.out.hf (by decide)) (.slice A9 ys.length c9)); have HV1 := za (rn.fresh_step HVX.out (below_size HBS.out) hat); clear ho hb hg hat XD d0 d2 g1 g2 e0 ea))
   all_goals go_wp2
   all_goals go_roundw
   all_goals (first | exact ⟨x + 1, _, by go_num, by omega, by omega, ⟨by rw [HYS.out]; exact XS1.out⟩, HBW1, HV1, B6W⟩ | (simp [intOf]; omega))
  ·
   have e6 : wr.cell? ⟨b6, 6, none⟩ = some (.slice A6 p.f6.length c6) := (blk_cell B6R.out 6).trans rfl
   have hxe : Aside0 (x = (p.f1.length : Int)) := ⟨by omega⟩
   have hlen : (rn.locs p.f1 args).length = p.f1.length := by have := HN.out; simp [rn.locs]; omega
   have XE : Aside0 (rn.ST w0 wr br bf l AL cL mod m fu tr (rn.locs p.f1 args) 0 vm vt vx) := ⟨by have h := XR.out; rw [hxe.out, List.take_of_length_le (by omega)] at h; exact h⟩
   have HQ2 := HQ.out
   rw [← hlen] at HQ2
   have HQ3 := za HQ2
   clear HQ2 hlen XR
   go_wp2_with ((go_at_call 38; refine (rn.block_calls w0 br l AL cL m tr vm vt bf mod f (HF.out bf) p.f6 A6 c6 wr fu fu2 _ loc2 0 res2 vx b2 XE.out Y0.out.g6 HQ3.out).mono ?_; rintro e w7 ⟨vx2, rfl, hx7, hs7⟩; have X7 := za hx7; have KP : Aside0 (Kept W w7 (fun k => k = br)) := ⟨(Kept.of_below HBR.out _).then_ hs7.k (fun k hk => by rcases hk with h | h | h; exact .inl h; exact .inr (by rw [h]; exact GF.out); exact .inr (HVX.out k h))⟩; clear hx7 hs7 e6; obtain ⟨d0, d1, d2, g1, g2⟩ := X7.out.cf))
   go_ret2
   exact ⟨rfl, X7.out.ru, KP.out⟩
end
section
theorem rn.ST.back {w0 W W' : World} {br bf : Nat} {l : List S39} {AL : Option Addr} {cL : Nat} {mod : ByteArray} {m : List S61} {fu fu' : Int} {tr : List ByteArray} {loc : List S61} {res : Int} {vm vt vx : Value} (x : rn.ST w0 W br bf l AL cL mod m fu tr loc res vm vt vx) (u : rn.RU w0 W' br l AL cL m fu' tr vm vt) (hk : Kept W W' (fun k => k = br)) : rn.ST w0 W' br bf l AL cL mod m fu' tr loc res vm vt vx :=
 ⟨u.hB, u.hr, blk_kept x.hf hk (Ne.symm x.ne), Kd.R_mono (Kd.R_kept (Kd.R_bound x.hm) hk (fun k hk e => by
   obtain ⟨_, _, _, q, hq, cs, hc⟩ := hk
   subst e
   rw [x.hr] at hc
   injection hc with hc
   injection hc with _ ht _
   subst ht
   revert hq
   decide)) (fun _ h => h.1), u.ht, Kd.R_mono (Kd.R_kept (Kd.R_bound x.hx) hk (fun k hk e => by
   obtain ⟨_, _, _, q, hq, cs, hc⟩ := hk
   subst e
   rw [x.hr] at hc
   injection hc with hc
   injection hc with _ ht _
   subst ht
   revert hq
   decide)) (fun _ h => h.1), x.gr, x.gf⟩
theorem rn.ST.ints {w0 W w1 : World} {br bf : Nat} {l : List S39} {AL : Option Addr} {cL : Nat} {mod : ByteArray} {m : List S61} {fu : Int} {tr : List ByteArray} {loc : List S61} {res : Int} {vm vt vx : Value} {base : Nat} {u : Value} {ys : List Int} (x : rn.ST w0 W br bf l AL cL mod m fu tr loc res vm vt vx) (h : (Kd.int .i64).R 3 W base (fun _ => True) u ys) (hb : w0.heap.size ≤ base) (hg : W.grownBy w1 u.ownBlock) : rn.ST w0 w1 br bf l AL cL mod m fu tr loc res vm vt vx :=
 ⟨pw_below_grown x.hB _ x.sz hg (fun k e => Nat.le_trans hb (Kd.R_base h k e)), blk_grown x.hr hg (Kd.R_ne h x.hr (by decide)), blk_grown x.hf hg (Kd.R_ne h x.hf (by decide)), Kd.R_over x.hm h (by decide) hg, Kd.R_over x.ht h (by decide) hg, Kd.R_over x.hx h (by decide) hg, x.gr, x.gf⟩
def rn.rd_args (xs : List (List S140)) (i : Int) : List S140 := xs.getD i.toNat ([] : List S140)
theorem rn.at_args {w : World} {A : Option Addr} {n : Nat} {xs : List (List S140)} (h : Kd.C (Kd.slice 140 k140) w A n xs) (i : Int) (h0 : 0 ≤ i) (h1 : i < n) : ∃ ad A0 c0, A = some ad ∧ w.cell? (ad.add i.toNat) = some (.slice A0 (rn.rd_args xs i).length c0) ∧ (rn.rd_args xs i).length ≤ c0 ∧ k140.C w A0 (rn.rd_args xs i).length (rn.rd_args xs i) := by
 obtain ⟨ad, c, e, _, hK, hc0⟩ := Kd.C_get h ([] : List S140) i h0 h1
 have hc : ∀ j u, c[j]? = some u → w.cell? (ad.add (i.toNat * 1 + j)) = some u := hc0
 obtain ⟨A0, c0, rfl, l0, g0⟩ := hK
 exact ⟨ad, A0, c0, e, by have hq := hc 0 _ rfl; rwa [Nat.mul_one, Nat.add_zero] at hq, l0, g0⟩
def rn.evs (g : List S140 → Option Int) : List (List S140) → Option (List Int)
 | [] => some []
 | a :: t => (g a).bind fun v => (rn.evs g t).bind fun vs => some (v :: vs)
theorem rn.drop_args (l : List (List S140)) (x : Int) (h0 : 0 ≤ x) (h1 : x < (l.length : Int)) : l.drop x.toNat = rn.rd_args l x :: l.drop (x + 1).toNat := by
 have h : x.toNat < l.length := by omega
 rw [List.drop_eq_getElem_cons h, show (x + 1).toNat = x.toNat + 1 by omega]
 simp [rn.rd_args, List.getD_eq_getElem?_getD, h]
def rn.payd (st : rn.RT) : rn.RT := (wrap64 (st.1 - 1), st.2)
def rn.call (f : ByteArray → S91 → rn.RT → Option (Bool × rn.RT)) (k : Nat) (l : List S39) (m : List S61) (mod : ByteArray) (s : S91) (st : rn.RT) : Option (Bool × rn.RT) :=
 if s.f9.length < 3518437208000 then
  (rn.evs (fun a => eV.f k a ((a.length : Int) - 1) mod st.2.1 m) s.f9).bind fun args =>
   if (rn.find l (if s.f6.toList = ([] : List UInt8) then mod else s.f6) s.f7 (args.length : Int)).2 = true then
    (rn.body (f (if s.f6.toList = ([] : List UInt8) then mod else s.f6)) (rn.find l (if s.f6.toList = ([] : List UInt8) then mod else s.f6) s.f7 (args.length : Int)).1 args st.1).bind fun q =>
     if q.2.1 = true then (if s.f5 = true then (rn.setn s.f2 s.f3 q.1 st.2.1).bind fun loc => some (true, q.2.2, loc, st.2.2) else none) else none
   else none
 else none
theorem rn.find_len {l : List S39} {mod proc : ByteArray} {n : Int} {p : S44} (h : rn.find l mod proc n = (p, true)) : (p.f1.length : Int) = n := by
 unfold rn.find at h
 split at h
 ·
  cases h
 ·
  split at h
  ·
   cases h
  ·
   split at h
   ·
    rename_i e
    cases h
    exact e
   ·
    cases h
set_option maxRecDepth 100000 in
set_option maxHeartbeats 8000000 in
theorem rn.call_calls (w0 : World) (br : Nat) (l : List S39) (AL : Option Addr) (cL : Nat) (m : List S61) (tr : List ByteArray) (vm vt : Value) (hL : k39.C w0 AL l.length l) (hcL : l.length ≤ cL) (k : Nat) (f : ByteArray → S91 → rn.RT → Option (Bool × rn.RT)) (hf : ∀ md bf, rn.StmtOk w0 br l AL cL m tr vm vt bf md (f md)) (bf : Nat) (mod : ByteArray)
  (s : S91) (W : World) (fu fu' : Int) (loc loc' : List S61) (res res' : Int) (vx : Value) (b : Bool) (A8 : Option Addr) (c8 : Nat) (A9 : Option Addr) (c9 : Nat) (A10 : Option Addr) (c10 : Nat) (A11 : Option Addr) (c11 : Nat)
  (x : rn.ST w0 W br bf l AL cL mod m fu tr loc res vm vt vx) (y : rn.SV w0 s A8 c8 A9 c9 A10 c10 A11 c11) (h : rn.call f k l m mod s (fu, loc, res) = some (b, fu', loc', res')) :
  Calls Try.prog 61 #[.pointer (some ⟨br, 0, none⟩), .pointer (some ⟨bf, 0, none⟩), .agg (rn.scs s A8 c8 A9 c9 A10 c10 A11 c11)] W fun e w' => e = .returned (.bool b) ∧ rn.ST w0 w' br bf l AL cL mod m fu' tr loc' res' vm vt vx ∧ rn.Stp W w' br bf vx vx := by
 have hu91 := Try.underlying91
 have hu44 := Try.underlying44
 unfold rn.call at h
 by_cases hsl : s.f9.length < 3518437208000
 case neg => rw [if_neg hsl] at h; cases h
 rw [if_pos hsl] at h
 obtain ⟨args, hev, h⟩ := Option.bind_eq_some_iff.mp h
 obtain ⟨md, hmd, hmb⟩ : ∃ md, (if s.f6.toList = ([] : List UInt8) then mod else s.f6) = md ∧ ((s.f6.toList.isEmpty = true ∧ md = mod) ∨ (s.f6.toList.isEmpty = false ∧ md = s.f6)) := by
  by_cases e : s.f6.toList = ([] : List UInt8)
  ·
   exact ⟨_, if_pos e, .inl ⟨by rw [e]; rfl, rfl⟩⟩
  ·
   exact ⟨_, if_neg e, .inr ⟨by simpa using e, rfl⟩⟩
 rw [hmd] at h
 obtain ⟨p, bb, hf0⟩ : ∃ p b, rn.find l md s.f7 (args.length : Int) = (p, b) := ⟨_, _, rfl⟩
 rw [hf0] at h
 dsimp only at h
 cases bb with
 | false => rw [if_neg Bool.false_ne_true] at h; cases h
 | true =>
 rw [if_pos rfl] at h
 obtain ⟨⟨v, b2, fu2⟩, hbd, h⟩ := Option.bind_eq_some_iff.mp h
 dsimp only at h
 cases b2 with
 | false => rw [if_neg Bool.false_ne_true] at h; cases h
 | true =>
 rw [if_pos rfl] at h
 by_cases h5 : s.f5 = true
 case neg => rw [if_neg h5] at h; cases h
 rw [if_pos h5] at h
 obtain ⟨loc2, hset, h⟩ := Option.bind_eq_some_iff.mp h
 simp only [Option.some.injEq, Prod.mk.injEq] at h
 obtain ⟨rfl, rfl, rfl, rfl⟩ := h
 have X0 := za x
 have Y0 := za y
 have HL := za hL
 have HF := za hf
 have HE := za hev
 have HFD := za hf0
 have HBD := za hbd
 have HST := za hset
 have H5 := za h5
 have HSL := za hsl
 have HMB := za hmb
 clear x y hL hf hev hf0 hbd hset h5 hsl hmd hmb
 go_enter Try.func61, Try.ntmps61
 go_wp2_with (((with_reducible refine gate_dst (N := 5) rfl ?_); refine box_event ?hg (N := 5) ?hd (cs := rn.scs s A8 c8 A9 c9 A10 c10 A11 c11) (t := 91) ?hr ?_; (case hd => rfl); (case hg => rfl); (case hr => exact zq21); intro b5 hg5 w5 hx5 hb5; have X5 := za (X0.out.below hb5); have HB5 := za hb5; have B5 := za hx5; have e9 : w5.cell? ⟨b5, 9, none⟩ = some (.slice A9 s.f9.length c9) := (blk_cell hx5 9).trans rfl; clear hx5 hb5 hg5))
 clear e9
 have hm9 := Kd.C_max Y0.out.g9
 go_loopw [7, 18] (fun u i wr => ∃ (x : Int) (ys zs : List Int), i = .int .i64 x ∧ 0 ≤ x ∧ x ≤ (s.f9.length : Int) ∧ Aside0 (rn.evs (fun a => eV.f k a ((a.length : Int) - 1) mod loc m) (s.f9.drop x.toNat) = some zs ∧ ys ++ zs = args ∧ ys.length = x.toNat) ∧ Aside0 ((Kd.int .i64).R 3 wr W.heap.size (fun _ => True) u ys) ∧ Aside0 (rn.ST w0 wr br bf l AL cL mod m fu tr loc res vm vt vx) ∧ Aside0 (Below W.heap.size W wr) ∧ Aside0 (wr.heap[b5]? = some (.cells (rn.scs s A8 c8 A9 c9 A10 c10 A11 c11) 91 (0, 0)))) (fun _ i _ => s.f9.length - (intOf i).toNat)
 case atStart => exact ⟨0, [], args, rfl, by omega, by omega, ⟨HE.out, rfl, rfl⟩, ⟨Kd.R_nil _ _ _ _ _⟩, X5, HB5, B5⟩
 case round =>
  obtain ⟨x, ys, zs, rfl, h0, h1, HI, HR, XR, HBR, BR⟩ := hrel
  by_cases hlt : x < (s.f9.length : Int)
  ·
   have p0 := eq_true h0
   have p1 := eq_true hlt
   obtain ⟨ad, Aa, ca, ea, hxa, la, qa⟩ := rn.at_args Y0.out.g9 x h0 hlt
   cases ea
   obtain ⟨hev, hyz, hyl⟩ := HI.out
   rw [rn.drop_args s.f9 x h0 hlt] at hev
   unfold rn.evs at hev
   obtain ⟨v1, hv1, hev⟩ := Option.bind_eq_some_iff.mp hev
   obtain ⟨vs, hvs, hev⟩ := Option.bind_eq_some_iff.mp hev
   injection hev with hev
   subst hev
   generalize rn.rd_args s.f9 x = E at *
   have QA := za qa
   have LA := za la
   have HV := za hv1
   have HJ : Aside0 (rn.evs (fun a => eV.f k a ((a.length : Int) - 1) mod loc m) (s.f9.drop (x + 1).toNat) = some vs ∧ (ys ++ [v1]) ++ vs = args ∧ (ys ++ [v1]).length = (x + 1).toNat) := ⟨hvs, by rw [List.append_assoc]; exact hyz, by rw [List.length_append, hyl]; simp; omega⟩
   have HYL := za hyl
   replace hxa := (XR.out.hB.cell (World.block_lt_of_cell? w0 _ hxa)).trans hxa
   clear hv1 hvs hyz hyl qa la HI
   go_wp2_with (first | (go_at_call 58; refine (rn.value_calls k XR.out _ _ E v1 (Kd.C_below QA.out XR.out.hB) LA.out HV.out).mono ?_; rintro e w7 ⟨rfl, hx7, hb7⟩; have X7 := za hx7; have HB7 := za (below_step HBR.out hb7); have B7 := za (blk_below BR.out hb7); have R7 := za (Kd.R_below HR.out hb7); clear hx7 hb7 hxa) | ((with_reducible refine gate_builtin (b := .append) (xs := #[.tmp 22, .tmp 27]) rfl ?_); at_builtin; refine Kd.R_append (Kd.int .i64) (w0 := W) W.heap.size rfl (.tmp 22) (.tmp 27) 23 3 (.int .i64 0) 8 rfl Try.underlying23 info3 rfl (by decide) (by omega) _ ys v1 [.int .i64 v1] (fun _ => True) (fun _ => False) rfl rfl ?aP (fun _ hk => hk.elim) ?aF ?aO ?aB ?aS ?aL ?_; (case aP => exact rfl); (case aF => exact fun _ _ => trivial); (case aO => exact R7.out); (case aB => exact HB7.out); (case aS => exact below_size HB7.out); (case aL => have := HYL.out; have := HSL.out; omega); intro u8 w8 ho hb hg hat; have R8 := za ho; have HB8 := za hb; have HG8 := za hg; clear ho hb hg hat))
   have X8 := za (X7.out.ints R7.out X0.out.sz HG8.out)
   have B8 := za (blk_grown B7.out HG8.out (Kd.R_ne R7.out B7.out (by decide)))
   go_roundw
   case rel => exact ⟨x + 1, _, vs, by go_num, by omega, by omega, HJ, R8, X8, HB8, B8⟩
   case measure => simp [intOf]; omega
  ·
   obtain ⟨hev, hyz, hyl⟩ := HI.out
   rw [List.drop_eq_nil_of_le (by omega)] at hev
   injection hev with hev
   subst hev
   rw [List.append_nil] at hyz
   subst hyz
   have e6 : wr.cell? ⟨b5, 6, none⟩ = some (.string s.f6) := (blk_cell BR.out 6).trans rfl
   have e7 : wr.cell? ⟨b5, 7, none⟩ = some (.string s.f7) := (blk_cell BR.out 7).trans rfl
   have er : wr.cell? ⟨br, 0, none⟩ = some (.slice AL l.length cL) := XR.out.cr.1
   have ef : wr.cell? ⟨bf, 0, none⟩ = some (.string mod) := XR.out.cf.1
   obtain ⟨Aa, ca, ea⟩ := Kd.R_slice HR.out
   subst ea
   have HC := za (Kd.R_reads' HR.out).2.2
   clear HI hyl
   rcases HMB.out with ⟨hb, rfl⟩ | ⟨hb, rfl⟩
   all_goals clear HMB
   all_goals have nr := World.new_ne wr _ er
   all_goals have n7 := World.new_ne wr _ e7
   all_goals go_wp2
   all_goals (go_region_held3 (fun w' => w'.cell? ⟨br, 0, none⟩ = some (.slice AL l.length cL) ∧ w'.cell? ⟨b5, 7, none⟩ = some (.string s.f7)) (first | go_keep) ((first | (go_at_call 26; refine (rn.find_calls AL cL l _ s.f7 ys.length p true w0 wr.drew HL.out (below_drew XR.out.hB) hcL HFD.out).mono ?_; rintro e w2 ⟨A1, k1, A5, k5, A6, k6, rfl, hp, hb2⟩; have HPV := za hp; have HB2 : Aside0 (Below wr.heap.size wr w2) := ⟨below_step (below_drew (Below.refl _ _)) hb2⟩; have er2 := pw_cell_below HB2.out er; have e72 := pw_cell_below HB2.out e7; have nr2 := World.new_ne w2 _ er2; have n72 := World.new_ne w2 _ e72; clear hp hb2) | (go_at_call 26; refine (rn.find_calls AL cL l _ s.f7 ys.length p true w0 (wr.drew.alloc (.cells #[.string (⟨#[]⟩ : ByteArray), .slice none 0 0, .bool false, .string (⟨#[]⟩ : ByteArray), .string (⟨#[]⟩ : ByteArray), .slice none 0 0, .slice none 0 0, .int .i64 0] 44)) HL.out (below_alloc (below_drew XR.out.hB) _) hcL HFD.out).mono ?_; rintro e w2 ⟨A1, k1, A5, k5, A6, k6, rfl, hp, hb2⟩; have HPV := za hp; have HB2 : Aside0 (Below wr.heap.size wr w2) := ⟨below_step (below_alloc (below_drew (Below.refl _ _)) _) hb2⟩; have er2 := pw_cell_below HB2.out er; have e72 := pw_cell_below HB2.out e7; have nr2 := World.new_ne w2 _ er2; have n72 := World.new_ne w2 _ e72; have BK : w2.heap[wr.heap.size]? = some (Obj.cells #[.string (⟨#[]⟩ : ByteArray), .slice none 0 0, .bool false, .string (⟨#[]⟩ : ByteArray), .string (⟨#[]⟩ : ByteArray), .slice none 0 0, .slice none 0 0, .int .i64 0] 44 (0, 0)) := blk_below (blk_new wr.drew (.cells #[.string (⟨#[]⟩ : ByteArray), .slice none 0 0, .bool false, .string (⟨#[]⟩ : ByteArray), .string (⟨#[]⟩ : ByteArray), .slice none 0 0, .slice none 0 0, .int .i64 0] 44)) hb2; have BKA := za BK; have kk0 : w2.cell? ⟨wr.heap.size, 0, none⟩ = _ := (blk_cell BK 0).trans rfl; have jj0 : w2.frozen? ⟨wr.heap.size, 0, none⟩ = false := blk_frozen BK 0; have kk1 : w2.cell? ⟨wr.heap.size, 1, none⟩ = _ := (blk_cell BK 1).trans rfl; have jj1 : w2.frozen? ⟨wr.heap.size, 1, none⟩ = false := blk_frozen BK 1; have kk2 : w2.cell? ⟨wr.heap.size, 2, none⟩ = _ := (blk_cell BK 2).trans rfl; have jj2 : w2.frozen? ⟨wr.heap.size, 2, none⟩ = false := blk_frozen BK 2; have kk3 : w2.cell? ⟨wr.heap.size, 3, none⟩ = _ := (blk_cell BK 3).trans rfl; have jj3 : w2.frozen? ⟨wr.heap.size, 3, none⟩ = false := blk_frozen BK 3; have kk4 : w2.cell? ⟨wr.heap.size, 4, none⟩ = _ := (blk_cell BK 4).trans rfl; have jj4 : w2.frozen? ⟨wr.heap.size, 4, none⟩ = false := blk_frozen BK 4; have kk5 : w2.cell? ⟨wr.heap.size, 5, none⟩ = _ := (blk_cell BK 5).trans rfl; have jj5 : w2.frozen? ⟨wr.heap.size, 5, none⟩ = false := blk_frozen BK 5; have kk6 : w2.cell? ⟨wr.heap.size, 6, none⟩ = _ := (blk_cell BK 6).trans rfl; have jj6 : w2.frozen? ⟨wr.heap.size, 6, none⟩ = false := blk_frozen BK 6; have kk7 : w2.cell? ⟨wr.heap.size, 7, none⟩ = _ := (blk_cell BK 7).trans rfl; have jj7 : w2.frozen? ⟨wr.heap.size, 7, none⟩ = false := blk_frozen BK 7; clear hp hb2 BK))))
   all_goals (first | (have BQ : Aside0 (((((((((w2.setCell ⟨wr.heap.size, 0, none⟩ (.string p.f0)).setCell ⟨wr.heap.size, 1, none⟩ (.slice A1 p.f1.length k1)).setCell ⟨wr.heap.size, 2, none⟩ (.bool p.f2)).setCell ⟨wr.heap.size, 3, none⟩ (.string p.f3)).setCell ⟨wr.heap.size, 4, none⟩ (.string p.f4)).setCell ⟨wr.heap.size, 5, none⟩ (.slice A5 p.f5.length k5)).setCell ⟨wr.heap.size, 6, none⟩ (.slice A6 p.f6.length k6)).setCell ⟨wr.heap.size, 7, none⟩ (.int .i64 p.f7)).heap[wr.heap.size]? = some (.cells (rn.pcs p A1 k1 A5 k5 A6 k6) 44 (0, 0))) := ⟨rn.blk8 BKA.out _ _ _ _ _ _ _ _⟩; have HQ : Aside0 (Below wr.heap.size wr ((((((((w2.setCell ⟨wr.heap.size, 0, none⟩ (.string p.f0)).setCell ⟨wr.heap.size, 1, none⟩ (.slice A1 p.f1.length k1)).setCell ⟨wr.heap.size, 2, none⟩ (.bool p.f2)).setCell ⟨wr.heap.size, 3, none⟩ (.string p.f3)).setCell ⟨wr.heap.size, 4, none⟩ (.string p.f4)).setCell ⟨wr.heap.size, 5, none⟩ (.slice A5 p.f5.length k5)).setCell ⟨wr.heap.size, 6, none⟩ (.slice A6 p.f6.length k6)).setCell ⟨wr.heap.size, 7, none⟩ (.int .i64 p.f7))) := ⟨rn.below8 HB2.out (Nat.le_refl _) _ _ _ _ _ _ _ _⟩; generalize ((((((((w2.setCell ⟨wr.heap.size, 0, none⟩ (.string p.f0)).setCell ⟨wr.heap.size, 1, none⟩ (.slice A1 p.f1.length k1)).setCell ⟨wr.heap.size, 2, none⟩ (.bool p.f2)).setCell ⟨wr.heap.size, 3, none⟩ (.string p.f3)).setCell ⟨wr.heap.size, 4, none⟩ (.string p.f4)).setCell ⟨wr.heap.size, 5, none⟩ (.slice A5 p.f5.length k5)).setCell ⟨wr.heap.size, 6, none⟩ (.slice A6 p.f6.length k6)).setCell ⟨wr.heap.size, 7, none⟩ (.int .i64 p.f7)) = wq at *; clear BKA) | (have BQ : Aside0 ((w2.alloc (.cells (rn.pcs p A1 k1 A5 k5 A6 k6) 44)).heap[w2.heap.size]? = some (.cells (rn.pcs p A1 k1 A5 k5 A6 k6) 44 (0, 0))) := ⟨blk_new w2 _⟩; have HQ : Aside0 (Below wr.heap.size wr (w2.alloc (.cells (rn.pcs p A1 k1 A5 k5 A6 k6) 44))) := ⟨below_alloc HB2.out _⟩; change Exit.then _ _ _ _ (w2.alloc (.cells (rn.pcs p A1 k1 A5 k5 A6 k6) 44)); generalize w2.alloc (.cells (rn.pcs p A1 k1 A5 k5 A6 k6) 44) = wq at *))
   all_goals (have q0 := (blk_cell BQ.out 0).trans rfl; have q1 := (blk_cell BQ.out 1).trans rfl; have q2 := (blk_cell BQ.out 2).trans rfl; have q3 := (blk_cell BQ.out 3).trans rfl; have q4 := (blk_cell BQ.out 4).trans rfl; have q5 := (blk_cell BQ.out 5).trans rfl; have q6 := (blk_cell BQ.out 6).trans rfl; have q7 := (blk_cell BQ.out 7).trans rfl)
   all_goals go_wp2_with (first | (go_at_call 28; refine (rn.body_calls w0 br l AL cL m tr vm vt _ (f _) (fun bf => HF.out _ bf) p A1 k1 A5 k5 A6 k6 ys _ _ wq fu fu2 v true (XR.out.below HQ.out).ru HPV.out (Kd.C_below HC.out HQ.out) (by have := rn.find_len HFD.out; omega) HBD.out).mono ?_; rintro e w9 ⟨rfl, hu9, hk9⟩; have X9 := za ((XR.out.below HQ.out).back hu9 hk9); have B9 := blk_kept (blk_below BR.out HQ.out) hk9 (blk_ne BR.out XR.out.hr (by decide)); have s5 : w9.cell? ⟨b5, 5, none⟩ = some (.bool true) := (blk_cell B9 5).trans (by show some (Value.bool s.f5) = _; rw [H5.out]); have s2 : w9.cell? ⟨b5, 2, none⟩ = some (.string s.f2) := (blk_cell B9 2).trans rfl; have s3 : w9.cell? ⟨b5, 3, none⟩ = some (.string s.f3) := (blk_cell B9 3).trans rfl; have S9 : Aside0 (rn.Stp W w9 br bf vx vx) := ⟨(rn.Stp.of_below (below_step HBR.out HQ.out)).trans ⟨hk9.mono (fun k h => .inl h), fun _ h => .inl h⟩⟩; clear hu9 hk9 B9 q0 q1 q2 q3 q4 q5 q6 q7) | (go_at_call 59; refine (rn.set_calls X9.out HST.out).mono ?_; rintro e w10 ⟨e0, rfl, hx10, hs10⟩; have X10 := za hx10; have S10 := za (S9.out.trans hs10); clear hx10 hs10))
   all_goals go_ret
   all_goals exact ⟨rfl, X10.out, S10.out⟩
end
section
theorem rn.call4 {w0 : World} {br : Nat} {l : List S39} {AL : Option Addr} {cL : Nat} {m : List S61} {tr : List ByteArray} {vm vt : Value} (hL : k39.C w0 AL l.length l) (hcL : l.length ≤ cL) {k : Nat} {f : ByteArray → S91 → rn.RT → Option (Bool × rn.RT)} (hf : ∀ md bf, rn.StmtOk w0 br l AL cL m tr vm vt bf md (f md)) {bf : Nat} {mod : ByteArray} {s : S91} {W : World} {fu fu' : Int} {loc loc' : List S61} {res res' : Int} {vx : Value} {b : Bool} {A8 A9 A10 A11 : Option Addr} {c8 c9 c10 c11 : Nat} (H : s.f0 = 4)
  (x : rn.ST w0 W br bf l AL cL mod m fu tr loc res vm vt vx) (y : rn.SV w0 s A8 c8 A9 c9 A10 c10 A11 c11) (h : rn.call f k l m mod s (fu, loc, res) = some (b, fu', loc', res')) :
  Calls Try.prog 61 #[.pointer (some ⟨br, 0, none⟩), .pointer (some ⟨bf, 0, none⟩), .agg #[.int .i64 4, .int .i64 s.f1, .string s.f2, .string s.f3, .string s.f4, .bool s.f5, .string s.f6, .string s.f7, .slice A8 s.f8.length c8, .slice A9 s.f9.length c9, .slice A10 s.f10.length c10, .slice A11 s.f11.length c11]] W fun e w' => e = .returned (.bool b) ∧ rn.ST w0 w' br bf l AL cL mod m fu' tr loc' res' vm vt vx ∧ rn.Stp W w' br bf vx vx := by
 have e : rn.scs s A8 c8 A9 c9 A10 c10 A11 c11 = #[.int .i64 4, .int .i64 s.f1, .string s.f2, .string s.f3, .string s.f4, .bool s.f5, .string s.f6, .string s.f7, .slice A8 s.f8.length c8, .slice A9 s.f9.length c9, .slice A10 s.f10.length c10, .slice A11 s.f11.length c11] := by
  unfold rn.scs
  rw [H]
 rw [← e]
 exact rn.call_calls w0 br l AL cL m tr vm vt hL hcL k f hf bf mod s W fu fu' loc loc' res res' vx b A8 c8 A9 c9 A10 c10 A11 c11 x y h
theorem rn.ne_frame {w0 W : World} {br bf : Nat} {l : List S39} {AL : Option Addr} {cL : Nat} {mod : ByteArray} {m : List S61} {fu : Int} {tr : List ByteArray} {loc : List S61} {res : Int} {vm vt vx : Value} {b5 : Nat} {cs : Array Value} (x : rn.ST w0 W br bf l AL cL mod m fu tr loc res vm vt vx) (h : W.heap[b5]? = some (.cells cs 91 (0, 0))) : ¬ (b5 = br ∨ b5 = bf ∨ vx.ownBlock = some b5) := by
 rintro (e | e | e)
 ·
  exact blk_ne h x.hr (by decide) e
 ·
  exact blk_ne h x.hf (by decide) e
 ·
  exact Kd.R_ne x.hx h (by decide) e.symm
theorem rn.Stp.app {W W' w1 : World} {br bf : Nat} {vx vx' v1 : Value} (h : rn.Stp W W' br bf vx vx') (hg : W'.grownBy w1 vx'.ownBlock) (hat : v1.ownBlock = vx'.ownBlock ∨ ∃ b, v1.ownBlock = some b ∧ W'.heap.size ≤ b) (j : Nat) (u : Value) : rn.Stp W (w1.setCell ⟨bf, j, none⟩ u) br bf vx v1 :=
 ⟨(Kept.of_grown hg h.k (fun k e => (h.x k e).elim (fun z => .inl (.inr (.inr z))) .inr)).setCell (.inl (.inr (.inl rfl))) u,
  fun k e => by
   rcases hat with e1 | ⟨b, e1, hb⟩
   ·
    exact h.x k (by rw [← e1]; exact e)
   ·
    rw [e1] at e
    injection e with e
    have := h.k.1
    right
    omega⟩
def rn.stmt (l : List S39) (m : List S61) : Nat → ByteArray → S91 → rn.RT → Option (Bool × rn.RT)
 | 0, _, _, _ => none
 | k + 1, mod, s, st =>
  if st.1 = 0 then some (false, st)
  else if s.f0 = 1 then (if st.2.1.length < 3518437208000 then (eV.f k s.f8 ((s.f8.length : Int) - 1) mod st.2.1 m).bind fun v => some (true, wrap64 (st.1 - 1), st.2.1 ++ [⟨(⟨#[]⟩ : ByteArray), s.f3, v⟩], st.2.2) else none)
  else if s.f0 = 2 then (eV.f k s.f8 ((s.f8.length : Int) - 1) mod st.2.1 m).bind fun v => (rn.setn s.f2 s.f3 v st.2.1).bind fun loc => some (true, wrap64 (st.1 - 1), loc, st.2.2)
  else if s.f0 = 3 then (eV.f k s.f8 ((s.f8.length : Int) - 1) mod st.2.1 m).bind fun v => some (true, wrap64 (st.1 - 1), st.2.1, v)
  else if s.f0 = 4 then rn.call (rn.stmt l m k) k l m mod s (rn.payd st)
  else if s.f0 = 5 then (eV.f k s.f8 ((s.f8.length : Int) - 1) mod st.2.1 m).bind fun v => if v = 0 then rn.blk (rn.stmt l m k mod) st.2.1.length s.f11 (rn.payd st) else rn.blk (rn.stmt l m k mod) st.2.1.length s.f10 (rn.payd st)
  else if s.f0 = 8 then some (true, wrap64 (st.1 - 1), st.2)
  else none
set_option maxRecDepth 100000 in
set_option maxHeartbeats 8000000 in
theorem rn.stmt_calls (w0 : World) (br : Nat) (l : List S39) (AL : Option Addr) (cL : Nat) (m : List S61) (tr : List ByteArray) (vm vt : Value) (hL : k39.C w0 AL l.length l) (hcL : l.length ≤ cL) : ∀ (k : Nat) (mod : ByteArray) (bf : Nat), rn.StmtOk w0 br l AL cL m tr vm vt bf mod (rn.stmt l m k mod) := by
 intro k
 induction k with
 | zero => intro mod bf s W fu fu' loc loc' res res' vx b A8 c8 A9 c9 A10 c10 A11 c11 x y h; cases h
 | succ k ih =>
 have IH := za ih
 clear ih
 intro mod bf s W fu fu' loc loc' res res' vx b A8 c8 A9 c9 A10 c10 A11 c11 x y h
 have HL := za hL
 clear hL
 have hu91 := Try.underlying91
 have X0 := za x
 have Y0 := za y
 clear x y
 unfold rn.stmt at h
 dsimp only at h
 by_cases hfu : fu = 0
 ·
  rw [if_pos hfu] at h
  simp only [Option.some.injEq, Prod.mk.injEq] at h
  obtain ⟨rfl, rfl, rfl, rfl⟩ := h
  subst hfu
  go_enter Try.func52, Try.ntmps52
  go_wp2_with (first | ((with_reducible refine gate_dst (N := 5) rfl ?_); refine box_event ?hg (N := 5) ?hd (cs := rn.scs s A8 c8 A9 c9 A10 c10 A11 c11) (t := 91) ?hr ?_; (case hd => rfl); (case hg => rfl); (case hr => exact zq21); intro b5 hg5 w5 hx5 hb5; have X5 := za (X0.out.below hb5); have HB5 := za hb5; have B5 := za hx5; clear hx5 hb5 hg5) | (go_at_call 57; refine (rn.pay0 X5.out).mono ?_; rintro e w6 ⟨rfl, rfl⟩))
  go_ret
  exact ⟨_, rfl, X5.out, rn.Stp.of_below HB5.out⟩
 rw [if_neg hfu] at h
 have HF := za hfu
 clear hfu
 by_cases h3 : s.f0 = 1
 ·
  rw [if_pos h3] at h
  by_cases hll : loc.length < 3518437208000
  case neg => rw [if_neg hll] at h; cases h
  rw [if_pos hll] at h
  obtain ⟨v, hv, h⟩ := Option.bind_eq_some_iff.mp h
  have HV : Aside0 (eV.f k s.f8 ((s.f8.length : Int) - 1) mod loc m = some v) := ⟨hv⟩
  have H3 := za h3
  have HLL := za hll
  clear hv h3 hll
  simp only [Option.some.injEq, Prod.mk.injEq] at h
  obtain ⟨rfl, rfl, hlo, rfl⟩ := h
  have HLO := za hlo.symm
  clear hlo
  obtain ⟨Ax, cx, ex⟩ := Kd.R_slice X0.out.hx
  subst ex
  go_enter Try.func52, Try.ntmps52
  go_wp2_with (first | ((with_reducible refine gate_dst (N := 5) rfl ?_); refine box_event ?hg (N := 5) ?hd (cs := rn.scs s A8 c8 A9 c9 A10 c10 A11 c11) (t := 91) ?hr ?_; (case hd => rfl); (case hg => rfl); (case hr => exact zq21); intro b5 hg5 w5 hx5 hb5; have X5 := za (X0.out.below hb5); have HB5 := za hb5; have B5 := za hx5; clear hx5 hb5 hg5) | (go_at_call 57; refine (rn.pay1 X5.out HF.out).mono ?_; rintro e w6 ⟨rfl, hx6, hk6⟩; have X6 := za hx6; have B6 := za (KeepBut.blk hk6 B5.out (blk_ne B5.out X5.out.hr (by decide)) (by simp)); have S6 : Aside0 (rn.Stp W w6 br bf (.slice Ax loc.length cx) (.slice Ax loc.length cx)) := ⟨(rn.Stp.of_below HB5.out).keep hk6⟩; clear hx6 hk6; have e0 : w6.cell? ⟨b5, 0, none⟩ = some (.int .i64 1) := (blk_cell B6.out 0).trans zq80; have e3 : w6.cell? ⟨b5, 3, none⟩ = some (.string s.f3) := (blk_cell B6.out 3).trans rfl; have e8 : w6.cell? ⟨b5, 8, none⟩ = some (.slice A8 s.f8.length c8) := (blk_cell B6.out 8).trans rfl; have XD6 := za (X6.out.below (W' := w6.drew) (below_drew (Below.refl _ _))); have SD6 := za (S6.out.below (W2 := w6.drew) (below_drew (Below.refl _ _))); have BD6 := za (blk_drew B6.out); have d1 : w6.cell? ⟨bf, 1, none⟩ = some (.slice Ax loc.length cx) := (blk_cell X6.out.hf 1).trans rfl))
  go_region_law (first | (go_simp; go_at_call 58; refine (rn.value_calls k (XD6.out) _ _ s.f8 v (Kd.C_below Y0.out.g8 XD6.out.hB) Y0.out.l8 HV.out).mono ?_; rintro e w7 ⟨rfl, hx7, hb7⟩; have X7 := za hx7; have S7 := za (SD6.out.below hb7); have B7 := za (blk_below BD6.out hb7); clear d1; have d1 : w7.cell? ⟨bf, 1, none⟩ = some (.slice Ax loc.length cx) := (blk_cell X7.out.hf 1).trans rfl; have e3 : w7.cell? ⟨b5, 3, none⟩ = some (.string s.f3) := (blk_cell B7.out 3).trans rfl; have e8 : w7.cell? ⟨b5, 8, none⟩ = some (.slice A8 s.f8.length c8) := (blk_cell B7.out 8).trans rfl; have d1a : ∀ o, (w7.alloc o).cell? ⟨bf, 1, none⟩ = some (.slice Ax loc.length cx) := fun o => pw_cell_below (below_alloc (Below.refl _ _) o) d1; clear hx7 hb7) | (refine Kd.R_append_step k61 (w0 := w0) (W := w7) w0.heap.size (by rfl) (.tmp 18) (.tmp 27) 24 61 (.agg #[(.string ⟨#[]⟩), (.string ⟨#[]⟩), (.int .i64 0)]) 40 rfl Try.underlying24 info61 rfl (by decide) (by omega) _ loc (⟨(⟨#[]⟩ : ByteArray), s.f3, v⟩ : S61) [.string (⟨#[]⟩ : ByteArray), .string s.f3, .int .i64 v] (fun _ => True) (fun _ => False) rfl rfl ?aP (fun _ hk => hk.elim) ?aF ?aO ?aB ?aS ?aL ?_; (case aP => exact k61_mkM _ _ _ (⟨(⟨#[]⟩ : ByteArray), s.f3, v⟩ : S61)); (case aF => exact fun _ _ => trivial); (case aO => exact X7.out.hx); (case aB => exact X7.out.hB); (case aS => exact X7.out.sz); (case aL => have := HLL.out; omega); intro v1 w1 ho hb hg hat; obtain ⟨A9', k9, e9⟩ := Kd.R_slice ho; subst e9; have X8 := za (X7.out.app ho hb hg hat); have S8 := za (S7.out.app hg hat 1 (.slice A9' (loc ++ [(⟨(⟨#[]⟩ : ByteArray), s.f3, v⟩ : S61)]).length k9)); have hln : (loc ++ [(⟨(⟨#[]⟩ : ByteArray), s.f3, v⟩ : S61)]).length = loc.length + 1 := (by simp); rw [hln] at X8 S8; clear hln; have hf1 := blk_grown X7.out.hf hg (Kd.R_ne X7.out.hx X7.out.hf (by decide)); have f1 := blk_frozen hf1 1; have d1b := (blk_cell hf1 1).trans rfl; have B8 := za (blk_grown B7.out hg (Kd.R_ne X7.out.hx B7.out (by decide))); have e3b : w1.cell? ⟨b5, 3, none⟩ = some (.string s.f3) := (blk_cell B8.out 3).trans rfl; have e8b : w1.cell? ⟨b5, 8, none⟩ = some (.slice A8 s.f8.length c8) := (blk_cell B8.out 8).trans rfl; have nb : b5 ≠ bf := blk_ne B7.out X7.out.hf (by decide); clear ho hb hg hat hf1))
  all_goals go_wp2
  all_goals go_ret
  all_goals exact ⟨_, rfl, by rw [HLO.out]; exact X8.out, S8.out⟩
 rw [if_neg h3] at h
 clear h3
 by_cases h3 : s.f0 = 2
 ·
  rw [if_pos h3] at h
  obtain ⟨v, hv, h⟩ := Option.bind_eq_some_iff.mp h
  have HV : Aside0 (eV.f k s.f8 ((s.f8.length : Int) - 1) mod loc m = some v) := ⟨hv⟩
  have H3 := za h3
  clear hv h3
  obtain ⟨loc2, hs, h⟩ := Option.bind_eq_some_iff.mp h
  simp only [Option.some.injEq, Prod.mk.injEq] at h
  obtain ⟨rfl, rfl, rfl, rfl⟩ := h
  have HS : Aside0 (rn.setn s.f2 s.f3 v loc = some loc2) := ⟨hs⟩
  clear hs
  go_enter Try.func52, Try.ntmps52
  go_wp2_with (first | ((with_reducible refine gate_dst (N := 5) rfl ?_); refine box_event ?hg (N := 5) ?hd (cs := rn.scs s A8 c8 A9 c9 A10 c10 A11 c11) (t := 91) ?hr ?_; (case hd => rfl); (case hg => rfl); (case hr => exact zq21); intro b5 hg5 w5 hx5 hb5; have X5 := za (X0.out.below hb5); have HB5 := za hb5; have B5 := za hx5; clear hx5 hb5 hg5) | (go_at_call 57; refine (rn.pay1 X5.out HF.out).mono ?_; rintro e w6 ⟨rfl, hx6, hk6⟩; have X6 := za hx6; have B6 := za (KeepBut.blk hk6 B5.out (blk_ne B5.out X5.out.hr (by decide)) (by simp)); have S6 : Aside0 (rn.Stp W w6 br bf vx vx) := ⟨(rn.Stp.of_below HB5.out).keep hk6⟩; clear hx6 hk6; have e0 : w6.cell? ⟨b5, 0, none⟩ = some (.int .i64 2) := (blk_cell B6.out 0).trans zq80; have e2 : w6.cell? ⟨b5, 2, none⟩ = some (.string s.f2) := (blk_cell B6.out 2).trans rfl; have e3 : w6.cell? ⟨b5, 3, none⟩ = some (.string s.f3) := (blk_cell B6.out 3).trans rfl; have e8 : w6.cell? ⟨b5, 8, none⟩ = some (.slice A8 s.f8.length c8) := (blk_cell B6.out 8).trans rfl; have XD6 := za (X6.out.below (W' := w6.drew) (below_drew (Below.refl _ _))); have SD6 := za (S6.out.below (W2 := w6.drew) (below_drew (Below.refl _ _))); have BD6 := za (blk_drew B6.out)))
  go_region_held3 (fun w' => w'.cell? ⟨b5, 2, none⟩ = some (.string s.f2) ∧ w'.cell? ⟨b5, 3, none⟩ = some (.string s.f3) ∧ w'.cell? ⟨b5, 8, none⟩ = some (.slice A8 s.f8.length c8)) (first | go_keep | (exact ⟨(blk_cell B8.out 2).trans rfl, (blk_cell B8.out 3).trans rfl, (blk_cell B8.out 8).trans rfl⟩) | (exact ⟨(blk_cell B7.out 2).trans rfl, (blk_cell B7.out 3).trans rfl, (blk_cell B7.out 8).trans rfl⟩)) ((first | (go_at_call 58; refine (rn.value_calls k (XD6.out) _ _ s.f8 v (Kd.C_below Y0.out.g8 XD6.out.hB) Y0.out.l8 HV.out).mono ?_; rintro e w7 ⟨rfl, hx7, hb7⟩; have X7 := za hx7; have S7 := za (SD6.out.below hb7); have B7 := za (blk_below BD6.out hb7); clear hx7 hb7) | (go_at_call 59; refine (rn.set_calls X7.out HS.out).mono ?_; rintro e w8 ⟨e0, rfl, hx8, hs8⟩; have X8 := za hx8; have S8 := za (S7.out.trans hs8); have B8 := za (blk_kept B7.out hs8.k (rn.ne_frame X7.out B7.out)); clear hx8 hs8)))
  go_wp2
  go_ret
  exact ⟨_, rfl, X8.out, S8.out⟩
 rw [if_neg h3] at h
 clear h3
 by_cases h3 : s.f0 = 3
 ·
  rw [if_pos h3] at h
  obtain ⟨v, hv, h⟩ := Option.bind_eq_some_iff.mp h
  have HV : Aside0 (eV.f k s.f8 ((s.f8.length : Int) - 1) mod loc m = some v) := ⟨hv⟩
  have H3 := za h3
  clear hv h3
  simp only [Option.some.injEq, Prod.mk.injEq] at h
  obtain ⟨rfl, rfl, rfl, rfl⟩ := h
  go_enter Try.func52, Try.ntmps52
  go_wp2_with (first | ((with_reducible refine gate_dst (N := 5) rfl ?_); refine box_event ?hg (N := 5) ?hd (cs := rn.scs s A8 c8 A9 c9 A10 c10 A11 c11) (t := 91) ?hr ?_; (case hd => rfl); (case hg => rfl); (case hr => exact zq21); intro b5 hg5 w5 hx5 hb5; have X5 := za (X0.out.below hb5); have HB5 := za hb5; have B5 := za hx5; clear hx5 hb5 hg5) | (go_at_call 57; refine (rn.pay1 X5.out HF.out).mono ?_; rintro e w6 ⟨rfl, hx6, hk6⟩; have X6 := za hx6; have B6 := za (KeepBut.blk hk6 B5.out (blk_ne B5.out X5.out.hr (by decide)) (by simp)); have S6 : Aside0 (rn.Stp W w6 br bf vx vx) := ⟨(rn.Stp.of_below HB5.out).keep hk6⟩; clear hx6 hk6; have e0 : w6.cell? ⟨b5, 0, none⟩ = some (.int .i64 3) := (blk_cell B6.out 0).trans zq80; have e8 : w6.cell? ⟨b5, 8, none⟩ = some (.slice A8 s.f8.length c8) := (blk_cell B6.out 8).trans rfl) | (go_at_call 58; refine (rn.value_calls k X6.out _ _ s.f8 v (Kd.C_below Y0.out.g8 X6.out.hB) Y0.out.l8 HV.out).mono ?_; rintro e w7 ⟨rfl, hx7, hb7⟩; have X7 := za hx7; have S7 := za (S6.out.below hb7); have B7 := za (blk_below B6.out hb7); clear hx7 hb7 e0 e8; obtain ⟨d0, d1, d2, g1, g2⟩ := X7.out.cf))
  go_ret
  exact ⟨_, rfl, X7.out.result v, S7.out.setf 2 _⟩
 rw [if_neg h3] at h
 clear h3
 by_cases h3 : s.f0 = 4
 ·
  rw [if_pos h3] at h
  have HK : Aside0 (rn.call (rn.stmt l m k) k l m mod s (wrap64 (fu - 1), loc, res) = some (b, fu', loc', res')) := ⟨h⟩
  have H3 := za h3
  clear h h3
  go_enter Try.func52, Try.ntmps52
  go_wp2_with (first | ((with_reducible refine gate_dst (N := 5) rfl ?_); refine box_event ?hg (N := 5) ?hd (cs := rn.scs s A8 c8 A9 c9 A10 c10 A11 c11) (t := 91) ?hr ?_; (case hd => rfl); (case hg => rfl); (case hr => exact zq21); intro b5 hg5 w5 hx5 hb5; have X5 := za (X0.out.below hb5); have HB5 := za hb5; have B5 := za hx5; clear hx5 hb5 hg5) | (go_at_call 57; refine (rn.pay1 X5.out HF.out).mono ?_; rintro e w6 ⟨rfl, hx6, hk6⟩; have X6 := za hx6; have B6 := za (KeepBut.blk hk6 B5.out (blk_ne B5.out X5.out.hr (by decide)) (by simp)); have S6 : Aside0 (rn.Stp W w6 br bf vx vx) := ⟨(rn.Stp.of_below HB5.out).keep hk6⟩; clear hx6 hk6; have e0 : w6.cell? ⟨b5, 0, none⟩ = some (.int .i64 4) := (blk_cell B6.out 0).trans zq80; have e1 : w6.cell? ⟨b5, 1, none⟩ = some (.int .i64 s.f1) := (blk_cell B6.out 1).trans rfl; have e2 : w6.cell? ⟨b5, 2, none⟩ = some (.string s.f2) := (blk_cell B6.out 2).trans rfl; have e3 : w6.cell? ⟨b5, 3, none⟩ = some (.string s.f3) := (blk_cell B6.out 3).trans rfl; have e4 : w6.cell? ⟨b5, 4, none⟩ = some (.string s.f4) := (blk_cell B6.out 4).trans rfl; have e5 : w6.cell? ⟨b5, 5, none⟩ = some (.bool s.f5) := (blk_cell B6.out 5).trans rfl; have e6 : w6.cell? ⟨b5, 6, none⟩ = some (.string s.f6) := (blk_cell B6.out 6).trans rfl; have e7 : w6.cell? ⟨b5, 7, none⟩ = some (.string s.f7) := (blk_cell B6.out 7).trans rfl; have e8 : w6.cell? ⟨b5, 8, none⟩ = some (.slice A8 s.f8.length c8) := (blk_cell B6.out 8).trans rfl; have e9 : w6.cell? ⟨b5, 9, none⟩ = some (.slice A9 s.f9.length c9) := (blk_cell B6.out 9).trans rfl; have e10 : w6.cell? ⟨b5, 10, none⟩ = some (.slice A10 s.f10.length c10) := (blk_cell B6.out 10).trans rfl; have e11 : w6.cell? ⟨b5, 11, none⟩ = some (.slice A11 s.f11.length c11) := (blk_cell B6.out 11).trans rfl) | (go_at_call 61; refine (rn.call4 HL.out hcL IH.out H3.out X6.out Y0.out HK.out).mono ?_; rintro e w7 ⟨rfl, hx7, hs7⟩; have X7 := za hx7; have S7 := za (S6.out.trans hs7); clear hx7 hs7))
  go_ret
  exact ⟨_, rfl, X7.out, S7.out⟩
 rw [if_neg h3] at h
 clear h3
 by_cases h3 : s.f0 = 5
 ·
  rw [if_pos h3] at h
  obtain ⟨v, hv, h⟩ := Option.bind_eq_some_iff.mp h
  have HV : Aside0 (eV.f k s.f8 ((s.f8.length : Int) - 1) mod loc m = some v) := ⟨hv⟩
  have H3 := za h3
  clear hv h3
  by_cases hv0 : v = 0
  ·
   rw [if_pos hv0] at h
   subst hv0
   have HBk : Aside0 (rn.blk (rn.stmt l m k mod) loc.length s.f11 (wrap64 (fu - 1), loc, res) = some (b, fu', loc', res')) := ⟨h⟩
   clear h
   go_enter Try.func52, Try.ntmps52
   go_wp2_with (first | ((with_reducible refine gate_dst (N := 5) rfl ?_); refine box_event ?hg (N := 5) ?hd (cs := rn.scs s A8 c8 A9 c9 A10 c10 A11 c11) (t := 91) ?hr ?_; (case hd => rfl); (case hg => rfl); (case hr => exact zq21); intro b5 hg5 w5 hx5 hb5; have X5 := za (X0.out.below hb5); have HB5 := za hb5; have B5 := za hx5; clear hx5 hb5 hg5) | (go_at_call 57; refine (rn.pay1 X5.out HF.out).mono ?_; rintro e w6 ⟨rfl, hx6, hk6⟩; have X6 := za hx6; have B6 := za (KeepBut.blk hk6 B5.out (blk_ne B5.out X5.out.hr (by decide)) (by simp)); have S6 : Aside0 (rn.Stp W w6 br bf vx vx) := ⟨(rn.Stp.of_below HB5.out).keep hk6⟩; clear hx6 hk6; have e0 : w6.cell? ⟨b5, 0, none⟩ = some (.int .i64 5) := (blk_cell B6.out 0).trans zq80; have e8 : w6.cell? ⟨b5, 8, none⟩ = some (.slice A8 s.f8.length c8) := (blk_cell B6.out 8).trans rfl) | (go_at_call 58; refine (rn.value_calls k X6.out _ _ s.f8 0 (Kd.C_below Y0.out.g8 X6.out.hB) Y0.out.l8 HV.out).mono ?_; rintro e w7 ⟨rfl, hx7, hb7⟩; have X7 := za hx7; have S7 := za (S6.out.below hb7); have B7 := za (blk_below B6.out hb7); clear hx7 hb7 e0 e8; have e11 : w7.cell? ⟨b5, 11, none⟩ = some (.slice A11 s.f11.length c11) := (blk_cell B7.out 11).trans rfl) | (go_at_call 38; refine (rn.block_calls w0 br l AL cL m tr vm vt bf mod (rn.stmt l m k mod) (IH.out mod bf) s.f11 A11 c11 _ (wrap64 (fu - 1)) fu' loc loc' res res' vx b X7.out Y0.out.g11 HBk.out).mono ?_; rintro e w8 ⟨vx2, rfl, hx8, hs8⟩; have X8 := za hx8; have S8 := za (S7.out.trans hs8); clear hx8 hs8))
   go_ret
   exact ⟨_, rfl, X8.out, S8.out⟩
  ·
   rw [if_neg hv0] at h
   have hvb : (v != 0) = true := bne_iff_ne.mpr hv0
   have hvc : (v == 0) = false := beq_eq_false_iff_ne.mpr hv0
   have HBk : Aside0 (rn.blk (rn.stmt l m k mod) loc.length s.f10 (wrap64 (fu - 1), loc, res) = some (b, fu', loc', res')) := ⟨h⟩
   clear h hv0
   go_enter Try.func52, Try.ntmps52
   go_wp2_with (first | ((with_reducible refine gate_dst (N := 5) rfl ?_); refine box_event ?hg (N := 5) ?hd (cs := rn.scs s A8 c8 A9 c9 A10 c10 A11 c11) (t := 91) ?hr ?_; (case hd => rfl); (case hg => rfl); (case hr => exact zq21); intro b5 hg5 w5 hx5 hb5; have X5 := za (X0.out.below hb5); have HB5 := za hb5; have B5 := za hx5; clear hx5 hb5 hg5) | (go_at_call 57; refine (rn.pay1 X5.out HF.out).mono ?_; rintro e w6 ⟨rfl, hx6, hk6⟩; have X6 := za hx6; have B6 := za (KeepBut.blk hk6 B5.out (blk_ne B5.out X5.out.hr (by decide)) (by simp)); have S6 : Aside0 (rn.Stp W w6 br bf vx vx) := ⟨(rn.Stp.of_below HB5.out).keep hk6⟩; clear hx6 hk6; have e0 : w6.cell? ⟨b5, 0, none⟩ = some (.int .i64 5) := (blk_cell B6.out 0).trans zq80; have e8 : w6.cell? ⟨b5, 8, none⟩ = some (.slice A8 s.f8.length c8) := (blk_cell B6.out 8).trans rfl) | (go_at_call 58; refine (rn.value_calls k X6.out _ _ s.f8 v (Kd.C_below Y0.out.g8 X6.out.hB) Y0.out.l8 HV.out).mono ?_; rintro e w7 ⟨rfl, hx7, hb7⟩; have X7 := za hx7; have S7 := za (S6.out.below hb7); have B7 := za (blk_below B6.out hb7); clear hx7 hb7 e0 e8; have e10 : w7.cell? ⟨b5, 10, none⟩ = some (.slice A10 s.f10.length c10) := (blk_cell B7.out 10).trans rfl) | (go_at_call 38; refine (rn.block_calls w0 br l AL cL m tr vm vt bf mod (rn.stmt l m k mod) (IH.out mod bf) s.f10 A10 c10 _ (wrap64 (fu - 1)) fu' loc loc' res res' vx b X7.out Y0.out.g10 HBk.out).mono ?_; rintro e w8 ⟨vx2, rfl, hx8, hs8⟩; have X8 := za hx8; have S8 := za (S7.out.trans hs8); clear hx8 hs8))
   go_ret
   exact ⟨_, rfl, X8.out, S8.out⟩
 rw [if_neg h3] at h
 clear h3
 by_cases h3 : s.f0 = 8
 ·
  rw [if_pos h3] at h
  simp only [Option.some.injEq, Prod.mk.injEq] at h
  obtain ⟨rfl, rfl, rfl, rfl⟩ := h
  have H3 := za h3
  clear h3
  go_enter Try.func52, Try.ntmps52
  go_wp2_with (first | ((with_reducible refine gate_dst (N := 5) rfl ?_); refine box_event ?hg (N := 5) ?hd (cs := rn.scs s A8 c8 A9 c9 A10 c10 A11 c11) (t := 91) ?hr ?_; (case hd => rfl); (case hg => rfl); (case hr => exact zq21); intro b5 hg5 w5 hx5 hb5; have X5 := za (X0.out.below hb5); have HB5 := za hb5; have B5 := za hx5; clear hx5 hb5 hg5) | (go_at_call 57; refine (rn.pay1 X5.out HF.out).mono ?_; rintro e w6 ⟨rfl, hx6, hk6⟩; have X6 := za hx6; have B6 := za (KeepBut.blk hk6 B5.out (blk_ne B5.out X5.out.hr (by decide)) (by simp)); have S6 : Aside0 (rn.Stp W w6 br bf vx vx) := ⟨(rn.Stp.of_below HB5.out).keep hk6⟩; clear hx6 hk6; have e0 : w6.cell? ⟨b5, 0, none⟩ = some (.int .i64 8) := (blk_cell B6.out 0).trans zq80))
  go_ret
  exact ⟨_, rfl, X6.out, S6.out⟩
 rw [if_neg h3] at h
 cases h
end
section
theorem rn.blk5 {g : Nat} {W : World} {t : TypeId} {a0 a1 a2 a3 a4 : Value} (h : W.heap[g]? = some (.cells #[a0, a1, a2, a3, a4] t (0, 0))) (u0 u1 u2 u3 u4 : Value) :
  (((((W.setCell ⟨g, 0, none⟩ u0).setCell ⟨g, 1, none⟩ u1).setCell ⟨g, 2, none⟩ u2).setCell ⟨g, 3, none⟩ u3).setCell ⟨g, 4, none⟩ u4).heap[g]? = some (.cells #[u0, u1, u2, u3, u4] t (0, 0)) :=
 blk_put (blk_put (blk_put (blk_put (blk_put h 0 u0 rfl) 1 u1 rfl) 2 u2 rfl) 3 u3 rfl) 4 u4 rfl
theorem rn.below5 {g : Nat} {w W : World} (h : Below w.heap.size w W) (hg : w.heap.size ≤ g) (u0 u1 u2 u3 u4 : Value) : Below w.heap.size w (((((W.setCell ⟨g, 0, none⟩ u0).setCell ⟨g, 1, none⟩ u1).setCell ⟨g, 2, none⟩ u2).setCell ⟨g, 3, none⟩ u3).setCell ⟨g, 4, none⟩ u4) :=
 below_set (below_set (below_set (below_set (below_set h hg) hg) hg) hg) hg
theorem rn.run_set5 {α : Type} {d : Kd α} {e base g : Nat} {ok : Nat → Prop} {W : World} {v : Value} {xs : List α} {t : Nat} {a0 a1 a2 a3 a4 : Value} (h : d.R e W base ok v xs) (hb : W.heap[g]? = some (.cells #[a0, a1, a2, a3, a4] t (0, 0))) (ht : ∀ q, q ∈ e :: d.E → q ≠ t) (u0 u1 u2 u3 u4 : Value) : d.R e (((((W.setCell ⟨g, 0, none⟩ u0).setCell ⟨g, 1, none⟩ u1).setCell ⟨g, 2, none⟩ u2).setCell ⟨g, 3, none⟩ u3).setCell ⟨g, 4, none⟩ u4) base ok v xs := by
 have z0 := blk_put hb 0 u0 rfl
 have z1 := blk_put z0 1 u1 rfl
 have z2 := blk_put z1 2 u2 rfl
 have z3 := blk_put z2 3 u3 rfl
 exact Kd.R_set (Kd.R_set (Kd.R_set (Kd.R_set (Kd.R_set h hb ht 0 u0) z0 ht 1 u1) z1 ht 2 u2) z2 ht 3 u3) z3 ht 4 u4
theorem rn.blkfar8 {g g' : Nat} {W : World} {t : Nat} {cs : Array Value} (h : W.heap[g']? = some (.cells cs t (0, 0))) (hne : g' ≠ g) (u0 u1 u2 u3 u4 u5 u6 u7 : Value) : ((((((((W.setCell ⟨g, 0, none⟩ u0).setCell ⟨g, 1, none⟩ u1).setCell ⟨g, 2, none⟩ u2).setCell ⟨g, 3, none⟩ u3).setCell ⟨g, 4, none⟩ u4).setCell ⟨g, 5, none⟩ u5).setCell ⟨g, 6, none⟩ u6).setCell ⟨g, 7, none⟩ u7).heap[g']? = some (.cells cs t (0, 0)) :=
 blk_far (blk_far (blk_far (blk_far (blk_far (blk_far (blk_far (blk_far h hne _) hne _) hne _) hne _) hne _) hne _) hne _) hne _
theorem rn.blkfar5 {g g' : Nat} {W : World} {t : Nat} {cs : Array Value} (h : W.heap[g']? = some (.cells cs t (0, 0))) (hne : g' ≠ g) (u0 u1 u2 u3 u4 : Value) : (((((W.setCell ⟨g, 0, none⟩ u0).setCell ⟨g, 1, none⟩ u1).setCell ⟨g, 2, none⟩ u2).setCell ⟨g, 3, none⟩ u3).setCell ⟨g, 4, none⟩ u4).heap[g']? = some (.cells cs t (0, 0)) :=
 blk_far (blk_far (blk_far (blk_far (blk_far h hne _) hne _) hne _) hne _) hne _
def rn.f (k : Nat) (l : List S39) (mod proc : ByteArray) (args : List Int) (m : List S61) (fuel : Int) : Option (Int × List S61 × Int × List ByteArray × Int) :=
 if (rn.find l mod proc (args.length : Int)).2 = false then none
 else if fuel < 0 then none
 else if 20000 < fuel then none
 else (api_Cell_27.f m).bind fun m1 => (rn.body (rn.stmt l m1 k mod) (rn.find l mod proc (args.length : Int)).1 args fuel).bind fun r => if r.2.1 = true then some (1, m1, r.1, [], r.2.2) else some (2, m1, 0, [], r.2.2)
theorem rn.blk_mono {f g : S91 → rn.RT → Option (Bool × rn.RT)} (h : ∀ s st, LeO (f s st) (g s st)) (n : Nat) : ∀ (l : List S91) (st : rn.RT), LeO (rn.blk f n l st) (rn.blk g n l st)
 | [], st => LeO.refl _
 | s :: t, st => by
  unfold rn.blk
  exact LeO.bind (h s st) (fun q => LeO.ite (rn.blk_mono h n t q.2) (LeO.refl _))
theorem rn.evs_mono {g g' : List S140 → Option Int} (h : ∀ a, LeO (g a) (g' a)) : ∀ l, LeO (rn.evs g l) (rn.evs g' l)
 | [] => LeO.refl _
 | a :: t => by
  unfold rn.evs
  exact LeO.bind (h a) (fun v => LeO.bind (rn.evs_mono h t) (fun _ => LeO.refl _))
theorem rn.body_mono {f g : S91 → rn.RT → Option (Bool × rn.RT)} (h : ∀ s st, LeO (f s st) (g s st)) (p : S44) (args : List Int) (fu : Int) : LeO (rn.body f p args fu) (rn.body g p args fu) := by
 unfold rn.body
 exact LeO.ite (LeO.bind (rn.blk_mono h _ _ _) (fun _ => LeO.refl _)) (LeO.refl _)
theorem rn.call_mono {f g : ByteArray → S91 → rn.RT → Option (Bool × rn.RT)} (h : ∀ md s st, LeO (f md s st) (g md s st)) (k : Nat) (l : List S39) (m : List S61) (mod : ByteArray) (s : S91) (st : rn.RT) : LeO (rn.call f k l m mod s st) (rn.call g (k + 1) l m mod s st) := by
 unfold rn.call
 exact LeO.ite (LeO.bind (rn.evs_mono (fun a => eV.mono _ _ _ _ _ _) _) (fun args => LeO.ite (LeO.bind (rn.body_mono (h _) _ _ _) (fun q => LeO.refl _)) (LeO.refl _))) (LeO.refl _)
theorem rn.stmt_mono (l : List S39) (m : List S61) : ∀ (k : Nat) (mod : ByteArray) (s : S91) (st : rn.RT), LeO (rn.stmt l m k mod s st) (rn.stmt l m (k + 1) mod s st) := by
 intro k
 induction k with
 | zero => intro mod s st; exact LeO.none _
 | succ k ih =>
  intro mod s st
  have he : LeO (eV.f k s.f8 ((s.f8.length : Int) - 1) mod st.2.1 m) (eV.f (k + 1) s.f8 ((s.f8.length : Int) - 1) mod st.2.1 m) := eV.mono _ _ _ _ _ _
  rw [rn.stmt, rn.stmt]
  exact LeO.ite (LeO.refl _) (LeO.ite (LeO.ite (LeO.bind he (fun _ => LeO.refl _)) (LeO.refl _)) (LeO.ite (LeO.bind he (fun _ => LeO.refl _)) (LeO.ite (LeO.bind he (fun _ => LeO.refl _)) (LeO.ite (rn.call_mono ih k l m mod s _) (LeO.ite (LeO.bind he (fun v => LeO.ite (rn.blk_mono (ih mod) _ _ _) (rn.blk_mono (ih mod) _ _ _))) (LeO.refl _))))))
theorem rn.mono : ∀ a0 a1 a2 a3 a4 a5 k, LeO (rn.f k a0 a1 a2 a3 a4 a5) (rn.f (k + 1) a0 a1 a2 a3 a4 a5) := by
 intro a0 a1 a2 a3 a4 a5 k
 exact LeO.ite (LeO.refl _) (LeO.ite (LeO.refl _) (LeO.ite (LeO.refl _) (LeO.bind (LeO.refl _) (fun m1 => LeO.bind (rn.body_mono (fun s st => rn.stmt_mono _ _ k _ s st) _ _ _) (fun _ => LeO.refl _)))))
set_option maxRecDepth 100000 in
set_option maxHeartbeats 8000000 in
theorem rn.calls (k : Nat) (A0 : Option Addr) (c0 : Nat) (l0 : List S39) (a1 a2 : ByteArray) (A3 : Option Addr) (c3 : Nat) (l3 : List Int) (A4 : Option Addr) (c4 : Nat) (l4 : List S61) (a5 : Int) (r1 : Int) (r2 : List S61) (r3 : Int) (r4 : List ByteArray) (r5 : Int) (w : World) (hr0 : k39.C w A0 l0.length l0) (hc0 : l0.length ≤ c0) (hr3 : (Kd.int .i64).C w A3 l3.length l3) (hc3 : l3.length ≤ c3) (hr4 : k61.C w A4 l4.length l4) (hc4 : l4.length ≤ c4) (h : rn.f k l0 a1 a2 l3 l4 a5 = some (r1, r2, r3, r4, r5)) :
  Calls Try.prog 15 #[.slice A0 l0.length c0, .string a1, .string a2, .slice A3 l3.length c3, .slice A4 l4.length c4, .int .i64 a5] w fun e w' => ∃ v1_ v3_ : Value, e = .returned (.agg #[.int .i64 r1, v1_, .int .i64 r3, v3_, .int .i64 r5]) ∧ k61.R 61 w' w.heap.size (fun _ => True) v1_ r2 ∧ Kd.string.R 9 w' w.heap.size (fun _ => True) v3_ r4 ∧ Below w.heap.size w w' := by
 have hu31 := Try.underlying31
 have hu44 := Try.underlying44
 have hu71 := Try.underlying71
 have HR0 := za hr0
 have HC0 := za hc0
 have HR3 := za hr3
 have HR4 := za hr4
 have HC4 := za hc4
 clear hr0 hc0 hr3 hr4 hc4 hc3
 unfold rn.f at h
 obtain ⟨p, b, hf⟩ : ∃ p b, rn.find l0 a1 a2 (l3.length : Int) = (p, b) := ⟨_, _, rfl⟩
 rw [hf] at h
 dsimp only at h
 have HF := za hf
 clear hf
 cases b with
 | false =>
  rw [if_pos rfl] at h
  cases h
 | true =>
  rw [if_neg (by decide)] at h
  by_cases h0 : a5 < 0
  ·
   rw [if_pos h0] at h
   cases h
  ·
   rw [if_neg h0] at h
   have hb0 : decide (a5 < 0) = false := decide_eq_false h0
   by_cases h1 : 20000 < a5
   ·
    rw [if_pos h1] at h
    cases h
   ·
    rw [if_neg h1] at h
    obtain ⟨m1, hm1, h⟩ := Option.bind_eq_some_iff.mp h
    obtain ⟨⟨res, b2, fu2⟩, hbd, h⟩ := Option.bind_eq_some_iff.mp h
    dsimp only at h
    have HM1 := za hm1
    have HBD := za hbd
    have H := za h
    have hb1 : decide (20000 < a5) = false := decide_eq_false h1
    clear hm1 h0 h1 hbd h
    go_enter Try.func15, Try.ntmps15
    go_wp2_with (first | ((with_reducible refine gate_dst (N := 12) rfl ?_); refine box_event ?hg (N := 12) ?hd (cs := #[.int .i64 0, .slice none 0 0, .int .i64 0, .slice none 0 0, .int .i64 0]) (t := 31) ?hr ?_; (case hd => rfl); (case hg => rfl); (case hr => exact zq21); intro b12 hgb12 w12 hxb12 hbb12; have HB12 := za hbb12; have B12 := za hxb12; have G12 := za (Nat.le_of_eq hgb12.symm); clear hxb12 hbb12 hgb12) | (go_at_call 26; refine (rn.find_calls A0 c0 l0 a1 a2 l3.length p true w12 _ (Kd.C_below HR0.out HB12.out) (Below.refl _ _) HC0.out HF.out).mono ?_; rintro e w2 ⟨A1, k1, A5, k5, A6, k6, rfl, hp, hb2⟩; have HPV := za hp; have HB2 := za (below_step HB12.out hb2); have HC2 := za hb2; have B2 := za (blk_below B12.out hb2); clear hp hb2) | ((with_reducible refine gate_dst (N := 13) rfl ?_); refine box_event ?hg (N := 13) ?hd (cs := #[.string (⟨#[]⟩ : ByteArray), .slice none 0 0, .bool false, .string (⟨#[]⟩ : ByteArray), .string (⟨#[]⟩ : ByteArray), .slice none 0 0, .slice none 0 0, .int .i64 0]) (t := 44) ?hr ?_; (case hd => rfl); (case hg => rfl); (case hr => exact zq21); intro b13 hgb13 w13 hxb13 hbb13; have HB13 := za (below_step HB2.out hbb13); have B13 := za hxb13; have G13 := za (Nat.le_trans (below_size HB2.out) (Nat.le_of_eq hgb13.symm)); have HC13 := za (below_step HC2.out hbb13); have GC13 := za (Nat.le_trans (below_size HC2.out) (Nat.le_of_eq hgb13.symm)); have B12a := za (blk_below B2.out hbb13); have N13 := za (blk_ne B12a.out hxb13 (by decide)); have kk0 := (blk_cell hxb13 0).trans rfl; have fkk0 := blk_frozen hxb13 0; have kk1 := (blk_cell hxb13 1).trans rfl; have fkk1 := blk_frozen hxb13 1; have kk2 := (blk_cell hxb13 2).trans rfl; have fkk2 := blk_frozen hxb13 2; have kk3 := (blk_cell hxb13 3).trans rfl; have fkk3 := blk_frozen hxb13 3; have kk4 := (blk_cell hxb13 4).trans rfl; have fkk4 := blk_frozen hxb13 4; have kk5 := (blk_cell hxb13 5).trans rfl; have fkk5 := blk_frozen hxb13 5; have kk6 := (blk_cell hxb13 6).trans rfl; have fkk6 := blk_frozen hxb13 6; have kk7 := (blk_cell hxb13 7).trans rfl; have fkk7 := blk_frozen hxb13 7; clear hxb13 hbb13 hgb13) | (go_at_call 27; refine (api_Cell_27.calls A4 c4 l4 m1 _ (Kd.C_below HR4.out (rn.below8 HB13.out G13.out _ _ _ _ _ _ _ _)) HC4.out HM1.out).mono ?_; rintro e w3 ⟨v, rfl, ho, hb3⟩; obtain ⟨Av, cv, ev⟩ := Kd.R_slice ho; subst ev; have HB3 := za (below_step (rn.below8 HB13.out G13.out _ _ _ _ _ _ _ _) hb3); have HO := za (Kd.R_lower ho (below_size (rn.below8 HB13.out G13.out _ _ _ _ _ _ _ _))); have B12c := za (blk_below (rn.blkfar8 B12a.out N13.out _ _ _ _ _ _ _ _) hb3); have HC3 := za (below_step (rn.below8 HC13.out GC13.out _ _ _ _ _ _ _ _) hb3); have HOC := za (Kd.R_lower ho (below_size (rn.below8 HC13.out GC13.out _ _ _ _ _ _ _ _))); have B13c := za (blk_below (rn.blk8 B13.out _ _ _ _ _ _ _ _) hb3); clear ho hb3 kk0 fkk0 kk1 fkk1 kk2 fkk2 kk3 fkk3 kk4 fkk4 kk5 fkk5 kk6 fkk6 kk7 fkk7) | ((with_reducible refine gate_dst (N := 46) rfl ?_); refine box_event ?hg (N := 46) ?hd (cs := #[.slice A0 l0.length c0, .slice Av m1.length cv, .int .i64 a5, .slice none 0 0]) (t := 71) ?hr ?_; (case hd => rfl); (case hg => rfl); (case hr => exact zq21); intro br hgbr w4 hxbr hbbr; have HB4 := za (below_step HB3.out hbbr); have RX : Aside0 (rn.RU w12 w4 br l0 A0 c0 m1 a5 [] (.slice Av m1.length cv) (.slice none 0 0)) := ⟨⟨below_step HC3.out hbbr, hxbr, Kd.R_below HOC.out hbbr, Kd.R_nil _ _ _ _ _, Nat.le_trans (below_size HC3.out) (Nat.le_of_eq hgbr.symm)⟩⟩; have B12d := za (blk_below B12c.out hbbr); have B13d := za (blk_below B13c.out hbbr); have p0 := (blk_cell B13d.out 0).trans rfl; have p1 := (blk_cell B13d.out 1).trans rfl; have p2 := (blk_cell B13d.out 2).trans rfl; have p3 := (blk_cell B13d.out 3).trans rfl; have p4 := (blk_cell B13d.out 4).trans rfl; have p5 := (blk_cell B13d.out 5).trans rfl; have p6 := (blk_cell B13d.out 6).trans rfl; have p7 := (blk_cell B13d.out 7).trans rfl; clear hxbr hbbr hgbr) | (go_at_call 28; refine (rn.body_calls w12 br l0 A0 c0 m1 [] (.slice Av m1.length cv) (.slice none 0 0) a1 (rn.stmt l0 m1 k a1) (fun bf => rn.stmt_calls w12 br l0 A0 c0 m1 [] _ _ (Kd.C_below HR0.out HB12.out) HC0.out k a1 bf) p A1 k1 A5 k5 A6 k6 l3 A3 c3 _ a5 fu2 res b2 RX.out HPV.out (Kd.C_below HR3.out HB4.out) (by have := rn.find_len HF.out; omega) HBD.out).mono ?_; rintro e w5 ⟨rfl, hx, hk⟩; have R5 := za hx; have B12e := za (blk_kept B12d.out hk (blk_ne B12d.out RX.out.hr (by decide))); clear hx hk p0 p1 p2 p3 p4 p5 p6 p7))
    have c1 : w5.cell? ⟨br, 1, none⟩ = some (.slice Av m1.length cv) := (blk_cell R5.out.hr 1).trans rfl
    have c2 : w5.cell? ⟨br, 2, none⟩ = some (.int .i64 fu2) := (blk_cell R5.out.hr 2).trans rfl
    have c3 : w5.cell? ⟨br, 3, none⟩ = some (.slice none 0 0) := (blk_cell R5.out.hr 3).trans rfl
    go_region_held3 (fun w' => w'.cell? ⟨br, 1, none⟩ = some (.slice Av m1.length cv) ∧ w'.cell? ⟨br, 2, none⟩ = some (.int .i64 fu2) ∧ w'.cell? ⟨br, 3, none⟩ = some (.slice none 0 0)) (first | go_keep) ((first | fail))
    have hle : w12.heap.size ≤ w5.heap.size := below_size R5.out.hB
    obtain ⟨b18, hb18⟩ : ∃ b18, b18 = w5.heap.size := ⟨_, rfl⟩
    obtain ⟨ws, hws⟩ : ∃ ws, ws = (w5.alloc (Obj.cells #[.int .i64 1, .slice Av m1.length cv, .int .i64 res, .slice none 0 0, .int .i64 fu2] 31)).drew := ⟨_, rfl⟩
    have BO : Aside0 (ws.heap[b18]? = some (.cells #[.int .i64 1, .slice Av m1.length cv, .int .i64 res, .slice none 0 0, .int .i64 fu2] 31 (0, 0))) := ⟨by rw [hws, hb18]; exact blk_drew (blk_new w5 _)⟩
    have B12s : Aside0 (ws.heap[b12]? = some (.cells #[.int .i64 0, .slice none 0 0, .int .i64 0, .slice none 0 0, .int .i64 0] 31 (0, 0))) := ⟨by rw [hws]; exact blk_drew (blk_alloc B12e.out _)⟩
    have NO : Aside0 (b12 ≠ b18) := ⟨by have h1 := blk_lt B12e.out; omega⟩
    have RM : Aside0 (k61.R 61 ws w12.heap.size (fun _ => True) (.slice Av m1.length cv) m1) := ⟨by rw [hws]; exact Kd.R_drew (Kd.R_alloc R5.out.hm _)⟩
    have RT2 : Aside0 (Kd.string.R 9 ws w12.heap.size (fun _ => True) (.slice none 0 0) []) := ⟨by rw [hws]; exact Kd.R_drew (Kd.R_alloc R5.out.ht _)⟩
    have HBW : Aside0 (Below w.heap.size w ws) := ⟨by rw [hws]; exact below_step HB12.out (below_drew (below_alloc R5.out.hB _))⟩
    have GO : Aside0 (w.heap.size ≤ b18) := ⟨by have h1 := below_size HB12.out; omega⟩
    rw [← hws, ← hb18]
    clear hws hb18 hle c1 c2 c3
    have hne1 := NO.out
    have hne2 := Ne.symm NO.out
    have o0 := (blk_cell BO.out 0).trans rfl
    have fo0 := blk_frozen BO.out 0
    have q0 := (blk_cell B12s.out 0).trans rfl
    have fq0 := blk_frozen B12s.out 0
    have o1 := (blk_cell BO.out 1).trans rfl
    have fo1 := blk_frozen BO.out 1
    have q1 := (blk_cell B12s.out 1).trans rfl
    have fq1 := blk_frozen B12s.out 1
    have o2 := (blk_cell BO.out 2).trans rfl
    have fo2 := blk_frozen BO.out 2
    have q2 := (blk_cell B12s.out 2).trans rfl
    have fq2 := blk_frozen B12s.out 2
    have o3 := (blk_cell BO.out 3).trans rfl
    have fo3 := blk_frozen BO.out 3
    have q3 := (blk_cell B12s.out 3).trans rfl
    have fq3 := blk_frozen B12s.out 3
    have o4 := (blk_cell BO.out 4).trans rfl
    have fo4 := blk_frozen BO.out 4
    have q4 := (blk_cell B12s.out 4).trans rfl
    have fq4 := blk_frozen B12s.out 4
    cases b2 with
    | true =>
     have h := H.out
     rw [if_pos rfl] at h
     simp only [Option.some.injEq, Prod.mk.injEq] at h
     obtain ⟨rfl, rfl, rfl, rfl, rfl⟩ := h
     go_wp2
     refine bodyPost_ret (results_cell_row rfl _ _ b12 31 #[.int .i64 1, .slice Av m1.length cv, .int .i64 res, .slice none 0 0, .int .i64 fu2] (0, 0) _ rfl (rn.blk5 B12s.out _ _ _ _ _) hu31 rfl zq13) rfl ?_
     exact ⟨_, _, rfl, Kd.R_lower (rn.run_set5 RM.out B12s.out (by decide) _ _ _ _ _) (below_size HB12.out), Kd.R_lower (rn.run_set5 RT2.out B12s.out (by decide) _ _ _ _ _) (below_size HB12.out), rn.below5 HBW.out G12.out _ _ _ _ _⟩
    | false =>
     have h := H.out
     rw [if_neg Bool.false_ne_true] at h
     simp only [Option.some.injEq, Prod.mk.injEq] at h
     obtain ⟨rfl, rfl, rfl, rfl, rfl⟩ := h
     go_wp2
     have z0 := blk_put BO.out 0 (.int .i64 2) rfl
     have y0 := blk_far B12s.out (p := ⟨b18, 0, none⟩) hne1 (.int .i64 2)
     have y1 := blk_far y0 (p := ⟨b18, 2, none⟩) hne1 (.int .i64 0)
     refine bodyPost_ret (results_cell_row rfl _ _ b12 31 #[.int .i64 2, .slice Av m1.length cv, .int .i64 0, .slice none 0 0, .int .i64 fu2] (0, 0) _ rfl (rn.blk5 y1 _ _ _ _ _) hu31 rfl zq13) rfl ?_
     exact ⟨_, _, rfl, Kd.R_lower (rn.run_set5 (Kd.R_set (Kd.R_set RM.out BO.out (by decide) 0 _) z0 (by decide) 2 _) y1 (by decide) _ _ _ _ _) (below_size HB12.out), Kd.R_lower (rn.run_set5 (Kd.R_set (Kd.R_set RT2.out BO.out (by decide) 0 _) z0 (by decide) 2 _) y1 (by decide) _ _ _ _ _) (below_size HB12.out), rn.below5 (below_set (below_set HBW.out GO.out) GO.out) G12.out _ _ _ _ _⟩
end
end Go.Proofs.Ytcjnhnnfoadklaa.QRunCalls
