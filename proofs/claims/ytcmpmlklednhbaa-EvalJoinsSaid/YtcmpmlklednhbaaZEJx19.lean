import Derived.Test.YtcmpmlklednhbaaZEJx18
namespace Go.Proofs.Ytcmpmlklednhbaa.QEvalJoins
open Go.RowKit Go.Proofs.YtcmpmlklednhbaaW.PrintWords Go.Proofs.YtcmpmlklednhbaaW.PrintLast Go.Proofs.YtcmpmlklednhbaaW.PrintMore
set_option maxHeartbeats 8000000
set_option maxRecDepth 100000
attribute [local go_sem] max2_int min2_int max_two min_two max_three min_three max_four min_four
set_option linter.unusedVariables false
set_option linter.unusedSimpArgs false
section
open Go.Shelf
attribute [local go_sem] Oper.semAt_some
def eval_name.back (zs : List S63) (k : Nat) : Int × S63 := ((zs.length : Int) - 1 - (k : Int), rd_T63 zs ((zs.length : Int) - 1 - (k : Int)))
def eval_name.upto (zs : List S63) (k : Nat) : List (Int × S63) := (List.range k).map (eval_name.back zs)
theorem eval_name.upto_succ (zs : List S63) (k : Nat) : eval_name.upto zs (k + 1) = eval_name.upto zs k ++ [eval_name.back zs k] := by simp [eval_name.upto, List.range_succ]
theorem eval_name.upto_length (zs : List S63) (k : Nat) : (eval_name.upto zs k).length = k := by simp [eval_name.upto]
abbrev eval_name.encs (x : Int × S63) : Array Value := #[.int .i64 x.1, .agg #[.string x.2.f0, .string x.2.f1, .int .i64 x.2.f2]]
theorem eval_name.back1_in (F : Fence) (n : Nat) (h80 : F.fn 28) (hro : F.round = none) (hn : 1 ≤ n) (l Bs : Nat) (A : Option Addr) (cap : Nat) (zs : List S63) (w0 : World) (hC : Kd.C k63 w0 A zs.length zs) (hlen : zs.length ≤ 140737488355328) (J Jx : List (Int × S63) → World → Prop)
  (hY : ∀ pre x W, J pre W → pre.length < zs.length → YieldAt F (n - 1) Try.prog l (eval_name.encs x) W fun e W' =>
   (e = .returned (.bool true) ∧ J (pre ++ [x]) W' ∧ Below w0.heap.size W W') ∨ (e = .returned (.bool false) ∧ Jx (pre ++ [x]) W'))
  (W : World) (hB0 : Below w0.heap.size w0 W) (hBs0 : Bs < w0.heap.size) (hBs : w0.cell? ⟨Bs, 0, none⟩ = some (.slice A zs.length cap)) (h0 : J [] W) :
  CallsIn F n Try.prog 28 #[.func (.yield l) #[] #[], .pointer (some ⟨Bs, 0, none⟩)] W fun e W' => (∃ v, e = .returned v) ∧
   ((∃ ys, ys = eval_name.upto zs zs.length ∧ J ys W') ∨ (∃ pre, (∃ k, k ≤ zs.length ∧ pre = eval_name.upto zs k) ∧ Jx pre W')) := by
 have HC := za hC
 have HBs := za hBs
 have hb1 := (hB0.cell (p := ⟨Bs, 0, none⟩) hBs0).trans hBs
 have HB0 := za hB0
 clear hC hBs hB0
 refine callsIn_of_wp Try.func28 rfl h80 ?_ hro
 simp only [Try.ntmps28, List.size_toArray, List.length_cons, List.length_nil, Nat.reduceAdd, Nat.reduceSub, Array.replicate_succ, Array.replicate_zero, List.push_toArray, List.append_toArray, List.nil_append, List.cons_append]
 gi_wp2
 clear hb1
 gi_loopw [3] (fun i wr => ∃ (k : Nat) (x : Int), Aside0 (x = (zs.length : Int) - 1 - (k : Int)) ∧ -1 ≤ x ∧ x < (zs.length : Int) ∧ k ≤ zs.length ∧ i = .int .i64 x ∧ J (eval_name.upto zs k) wr ∧ Aside0 (Below w0.heap.size w0 wr))
  (fun i _ => (intOf i + 1).toNat)
 case atStart => exact ⟨0, _, ⟨by simp⟩, by omega, by omega, Nat.zero_le _, rfl, h0, HB0⟩
 case round =>
  obtain ⟨k, x, HX, hx0, hx1, hk, rfl, hJs, HB⟩ := hrel
  have hbr := (HB.out.cell (p := ⟨Bs, 0, none⟩) hBs0).trans HBs.out
  by_cases hlt : 0 ≤ x
  ·
   have hkl : k < zs.length := by have := HX.out; omega
   obtain ⟨ad, ea, e0, e1, e2⟩ := at_T63 HC.out x hlt hx1
   cases ea
   replace e0 := (HB.out.cell (World.block_lt_of_cell? w0 _ e0)).trans e0
   replace e1 := (HB.out.cell (World.block_lt_of_cell? w0 _ e1)).trans e1
   replace e2 := (HB.out.cell (World.block_lt_of_cell? w0 _ e2)).trans e2
   obtain ⟨fn, tmps, assign, body, hy, hR⟩ := hY _ (x, rd_T63 zs x) wr hJs (by rw [eval_name.upto_length]; exact hkl)
   have hup : Aside0 (eval_name.upto zs k ++ [(x, rd_T63 zs x)] = eval_name.upto zs (k + 1)) := ⟨by rw [eval_name.upto_succ, eval_name.back, ← HX.out]⟩
   have p0 := eq_true hlt
   have p1 := eq_true hx1
   gi_wp2
   refine hR.mono ?_
   rintro e W3 (⟨rfl, hJ3, hk3⟩ | ⟨rfl, hJx3⟩)
   ·
    gi_wp2
    go_roundw
    case rel => exact ⟨k + 1, x - 1, ⟨by have := HX.out; omega⟩, by omega, by omega, hkl, by go_num, by rw [hup.out] at hJ3; exact hJ3, ⟨HB.out.trans hk3⟩⟩
    case measure => simp [intOf]; omega
   ·
    gi_wp2
    refine bodyPost_ret (results_none rfl _ _ _) rfl ?_
    exact ⟨⟨_, rfl⟩, .inr ⟨_, ⟨k + 1, hkl, hup.out⟩, hJx3⟩⟩
  ·
   have hke : Aside0 (k = zs.length) := ⟨by have := HX.out; omega⟩
   gi_wp2
   go_end0
   exact ⟨⟨_, rfl⟩, .inl (by rw [← hke.out]; exact hJs)⟩
theorem eval_name.back_in (F : Fence) (n : Nat) (h52 : F.fn 15) (hro : F.round = none) (a : Option Addr) (len cap : Nat) (w : World) :
  CallsIn F n Try.prog 15 #[.slice a len cap] w fun e w' => e = .returned (.func (.func 28) #[] #[.pointer (some ⟨w.heap.size, 0, none⟩)]) ∧ w' = w.alloc (.cells #[.slice a len cap] 22) := by
 refine callsIn_of_wp Try.func15 rfl h52 ?_ hro
 simp only [Try.ntmps15, List.size_toArray, List.length_cons, List.length_nil, Nat.reduceAdd, Nat.reduceSub, Array.replicate_succ, Array.replicate_zero, List.push_toArray, List.append_toArray, List.nil_append, List.cons_append]
 gi_wp2
 go_ret
 exact ⟨rfl, rfl⟩
theorem eval_name.back_stops (F : Fence) (n : Nat) (h80 : F.fn 28) (hro : F.round = none) (hn : 1 ≤ n) (Bs : Nat) (A : Option Addr) (cap : Nat) (zs : List S63) (hlen : zs.length ≤ 140737488355328) (w : World) (hBs : Bs < w.heap.size) (hc : w.cell? ⟨Bs, 0, none⟩ = some (.slice A zs.length cap)) (hC : Kd.C k63 w A zs.length zs) :
  SeqStopsK F n Try.prog 28 #[.pointer (some ⟨Bs, 0, none⟩)] eval_name.encs (Below w.heap.size) (fun ys => ys = eval_name.upto zs zs.length) (fun pre => ∃ k, k ≤ zs.length ∧ pre = eval_name.upto zs k) zs.length w := fun l J Jx W hW _ _ hY h0 =>
 eval_name.back1_in F n h80 hro hn l Bs A cap zs w hC hlen J Jx hY W hW hBs hc h0
def eval_name.last (s : ByteArray) (zs : List S63) : Nat → Option Int
 | 0 => none
 | k + 1 => if ((rd_T63 zs (k : Int)).f1.toList = s.toList) then some (rd_T63 zs (k : Int)).f2 else eval_name.last s zs k
theorem eval_name.last_step (s : ByteArray) (zs : List S63) (k : Nat) (hk : k < zs.length) : eval_name.last s zs (zs.length - k) = if ((eval_name.back zs k).2.f1.toList = s.toList) then some (eval_name.back zs k).2.f2 else eval_name.last s zs (zs.length - (k + 1)) := by
 obtain ⟨d, hd⟩ : ∃ d, zs.length - k = d + 1 := ⟨zs.length - k - 1, by omega⟩
 rw [hd, show zs.length - (k + 1) = d by omega]
 have e : (zs.length : Int) - 1 - (k : Int) = (d : Int) := by omega
 simp only [eval_name.last, eval_name.back, e]
def eval_name.Not (s : ByteArray) (zs : List S63) (pre : List (Int × S63)) : Prop := ∀ k, pre = eval_name.upto zs k → k ≤ zs.length → eval_name.last s zs zs.length = eval_name.last s zs (zs.length - k)
theorem eval_name.upto_inj (zs : List S63) {k : Nat} {pre : List (Int × S63)} {x : Int × S63} (h : pre ++ [x] = eval_name.upto zs k) : ∃ j, k = j + 1 ∧ pre = eval_name.upto zs j ∧ x = eval_name.back zs j := by
 cases k with
 | zero => simp [eval_name.upto] at h
 | succ j =>
  rw [eval_name.upto_succ] at h
  obtain ⟨h1, h2⟩ := List.append_inj' h rfl
  exact ⟨j, rfl, h1, by simpa using h2⟩
theorem eval_name.Not.nil (s : ByteArray) (zs : List S63) : eval_name.Not s zs [] := by
 intro k h hk
 cases k with
 | zero => rfl
 | succ k => simp [eval_name.upto, List.range_succ] at h
theorem eval_name.Not.step {s : ByteArray} {zs : List S63} {pre : List (Int × S63)} {x : Int × S63} (h : eval_name.Not s zs pre) (hx : ¬ x.2.f1.toList = s.toList) : eval_name.Not s zs (pre ++ [x]) := by
 intro k hk hl
 obtain ⟨j, rfl, h1, h2⟩ := eval_name.upto_inj zs hk
 rw [h j h1 (by omega), eval_name.last_step s zs j (by omega), ← h2, if_neg hx]
theorem eval_name.Not.found {s : ByteArray} {zs : List S63} {pre : List (Int × S63)} {x : Int × S63} (h : eval_name.Not s zs pre) (hx : x.2.f1.toList = s.toList) {k : Nat} (hk : pre ++ [x] = eval_name.upto zs k) (hl : k ≤ zs.length) : eval_name.last s zs zs.length = some x.2.f2 := by
 obtain ⟨j, rfl, h1, h2⟩ := eval_name.upto_inj zs hk
 rw [h j h1 (by omega), eval_name.last_step s zs j (by omega), ← h2, if_pos hx]
theorem eval_name.Not.all {s : ByteArray} {zs : List S63} (h : eval_name.Not s zs (eval_name.upto zs zs.length)) : eval_name.last s zs zs.length = none := by
 rw [h zs.length rfl (Nat.le_refl _), Nat.sub_self]
 rfl
def eval_name.f (k : Nat) (a0_0 a0_1 : Int) (a0_2 a0_3 : ByteArray) (a0_4 a0_5 a0_6 : Int) (a1 : ByteArray) (l2 l3 : List S63) : Option Int :=
 if l2.length ≤ 140737488355328 then
  (if a0_2.toList = ([] : List UInt8) then (if (eval_name.last a0_3 l2 l2.length).isSome = true then (eval_name.last a0_3 l2 l2.length) else ((memory_Get.f k l3 a1 a0_3).bind fun b => (some b.1)))
   else ((memory_Get.f k l3 a0_2 a0_3).bind fun b => (some b.1)))
 else none
def eval_name.put (W : World) (x : S63) : World := W.alloc (.cells #[.string x.f0, .string x.f1, .int .i64 x.f2] 63)
theorem eval_name.put_keeps (W : World) (x : S63) : KeepsOthers W (eval_name.put W x) := KeepsOthers.alloc W _
theorem eval_name.put_below (W : World) (x : S63) : Below W.heap.size W (eval_name.put W x) := Below.alloc (Below.refl _ W) (Nat.le_refl _) _
theorem eval_name.put_blk (W : World) (x : S63) : (eval_name.put W x).heap[W.heap.size]? = some (.cells #[.string x.f0, .string x.f1, .int .i64 x.f2] 63 (0, 0)) := blk_new W _
theorem eval_name.mono : ∀ a0 a1 a2 a3 a4 a5 a6 a7 a8 a9 k, LeO (eval_name.f k a0 a1 a2 a3 a4 a5 a6 a7 a8 a9) (eval_name.f (k + 1) a0 a1 a2 a3 a4 a5 a6 a7 a8 a9) := by
 intro a0 a1 a2 a3 a4 a5 a6 a7 a8 a9 k
 unfold eval_name.f
 repeat' with_reducible first | apply memory_Get.mono | exact LeO.refl _ | refine LeO.ite ?_ ?_ | refine LeO.bind ?_ (fun _ => ?_)
theorem eval_name.calls (k : Nat) (a0_0 a0_1 : Int) (a0_2 a0_3 : ByteArray) (a0_4 a0_5 a0_6 : Int) (a1 : ByteArray) (A2 : Option Addr) (c2 : Nat) (l2 : List S63) (A3 : Option Addr) (c3 : Nat) (l3 : List S63) (r : Int) (w : World) (hr2 : Kd.C k63 w A2 l2.length l2) (hc2 : l2.length ≤ c2) (hr3 : Kd.C k63 w A3 l3.length l3) (hc3 : l3.length ≤ c3) (h : eval_name.f k a0_0 a0_1 a0_2 a0_3 a0_4 a0_5 a0_6 a1 l2 l3 = some r) :
  Calls Try.prog 11 #[.agg #[.int .i64 a0_0, .int .i64 a0_1, .string a0_2, .string a0_3, .int .i64 a0_4, .int .i64 a0_5, .int .i64 a0_6], .string a1, .slice A2 l2.length c2, .slice A3 l3.length c3] w fun e w' => e = .returned (.int .i64 r) ∧ Below w.heap.size w w' := by
 unfold eval_name.f at h
 by_cases hl : l2.length ≤ 140737488355328
 case neg => rw [if_neg hl] at h; cases h
 rw [if_pos hl] at h
 have HR2 := za hr2
 have HR3 := za hr3
 have HC2 := za hc2
 have HC3 := za hc3
 have HL := za hl
 clear hr2 hr3 hc2 hc3 hl
 refine (callsIn_wide (n := 3)).1 ?_
 have h33 : Fence.wide.fn 11 := trivial
 have h52 : Fence.wide.fn 15 := trivial
 have h80 : Fence.wide.fn 28 := trivial
 have h26 : Fence.wide.fn 16 := trivial
 have hro : Fence.wide.round = none := rfl
 have h1 : 1 ≤ 3 := by omega
 refine callsIn_of_wp_marks Try.func11 rfl h33 ?_ hro
 simp only [Try.ntmps11, List.size_toArray, List.length_cons, List.length_nil, Nat.reduceAdd, Nat.reduceSub, Array.replicate_succ, Array.replicate_zero, List.push_toArray, List.append_toArray, List.nil_append, List.cons_append]
 by_cases hm : a0_2.toList = ([] : List UInt8)
 ·
  rw [if_pos hm] at h
  have hmb : a0_2.toList.isEmpty = true := by rw [hm]; rfl
  have H := za h
  clear h
  gi_wp2_with (gi_at_call 15; refine (eval_name.back_in Fence.wide 2 h52 hro _ _ _ _).mono ?_; rintro e w' ⟨rfl, rfl⟩)
  have hB0 : Below w.heap.size w (((w.alloc (.cells #[.int .i64 a0_0, .int .i64 a0_1, .string a0_2, .string a0_3, .int .i64 a0_4, .int .i64 a0_5, .int .i64 a0_6] 48)).alloc (.cells #[.int .i64 0] 3)).alloc (.cells #[.slice A2 l2.length c2] 22)) := (((Below.refl _ w).alloc (Nat.le_refl _) _).alloc (by simp) _).alloc (by simp; omega) _
  have hsz : (((w.alloc (.cells #[.int .i64 a0_0, .int .i64 a0_1, .string a0_2, .string a0_3, .int .i64 a0_4, .int .i64 a0_5, .int .i64 a0_6] 48)).alloc (.cells #[.int .i64 0] 3)).alloc (.cells #[.slice A2 l2.length c2] 22)).heap.size = w.heap.size + 3 := by simp
  have b0 : (((w.alloc (.cells #[.int .i64 a0_0, .int .i64 a0_1, .string a0_2, .string a0_3, .int .i64 a0_4, .int .i64 a0_5, .int .i64 a0_6] 48)).alloc (.cells #[.int .i64 0] 3)).alloc (.cells #[.slice A2 l2.length c2] 22)).heap[w.heap.size]? = some (.cells #[.int .i64 a0_0, .int .i64 a0_1, .string a0_2, .string a0_3, .int .i64 a0_4, .int .i64 a0_5, .int .i64 a0_6] 48 (0, 0)) := by
   rw [Below.heap_alloc _ _ _ (by simp; omega), Below.heap_alloc _ _ _ (by simp)]
   exact blk_new w _
  have b1 : Boxed (((w.alloc (.cells #[.int .i64 a0_0, .int .i64 a0_1, .string a0_2, .string a0_3, .int .i64 a0_4, .int .i64 a0_5, .int .i64 a0_6] 48)).alloc (.cells #[.int .i64 0] 3)).alloc (.cells #[.slice A2 l2.length c2] 22)) (w.heap.size + 1) 3 (.int .i64 0) := by
   have := (Boxed.new (w.alloc (.cells #[.int .i64 a0_0, .int .i64 a0_1, .string a0_2, .string a0_3, .int .i64 a0_4, .int .i64 a0_5, .int .i64 a0_6] 48)) 3 (.int .i64 0)).alloc (.cells #[.slice A2 l2.length c2] 22)
   simpa only [World.size_alloc] using this
  have b2 : Boxed (((w.alloc (.cells #[.int .i64 a0_0, .int .i64 a0_1, .string a0_2, .string a0_3, .int .i64 a0_4, .int .i64 a0_5, .int .i64 a0_6] 48)).alloc (.cells #[.int .i64 0] 3)).alloc (.cells #[.slice A2 l2.length c2] 22)) (w.heap.size + 1 + 1) 22 (.slice A2 l2.length c2) := by
   have := Boxed.new ((w.alloc (.cells #[.int .i64 a0_0, .int .i64 a0_1, .string a0_2, .string a0_3, .int .i64 a0_4, .int .i64 a0_5, .int .i64 a0_6] 48)).alloc (.cells #[.int .i64 0] 3)) 22 (.slice A2 l2.length c2)
   simpa only [World.size_alloc] using this
  obtain ⟨W0, hW0⟩ : ∃ W0, ((w.alloc (.cells #[.int .i64 a0_0, .int .i64 a0_1, .string a0_2, .string a0_3, .int .i64 a0_4, .int .i64 a0_5, .int .i64 a0_6] 48)).alloc (.cells #[.int .i64 0] 3)).alloc (.cells #[.slice A2 l2.length c2] 22) = W0 := ⟨_, rfl⟩
  rw [hW0] at hB0 hsz b0 b1 b2 ⊢
  clear hW0
  have q3 : W0.cell? ⟨w.heap.size, 3, none⟩ = some (.string a0_3) := (blk_cell b0 3).trans rfl
  refine wpIn_rangeFunc_ownH hro h1 (gf := 28) (lb := #[.pointer (some ⟨w.heap.size + 1 + 1, 0, none⟩)]) rfl h80 (enters_of Try.func28 zq18 rfl)
   (eval_name.back_stops Fence.wide (3 - 1) h80 hro (by omega) (w.heap.size + 1 + 1) A2 c2 l2 HL.out W0 (by omega) b2.cell (Kd.C_below HR2.out hB0)) belowK_t (belowK_b (Nat.le_refl _)) (Below.refl _ _) (fun _ => rfl)
   (fun pre W => (eval_name.Not a0_3 l2 pre ∧ W.cell? ⟨w.heap.size, 3, none⟩ = some (.string a0_3) ∧ Boxed W (w.heap.size + 1) 3 (.int .i64 0) ∧ W0.heap.size ≤ W.heap.size) ∧ Below w.heap.size w W)
   (fun c pre W => (c = .ret ∧ ∃ ini x, pre = ini ++ [x] ∧ eval_name.Not a0_3 l2 ini ∧ x.2.f1.toList = a0_3.toList ∧ Boxed W (w.heap.size + 1) 3 (.int .i64 x.2.f2)) ∧ Below w.heap.size w W)
   (OwnFrom.and (Own.from (fun s A B row hs hg hr => ⟨hs.1, cell_kept hs.2.1 hg hr, boxed_own (w.heap.size + 1) 3 (fun (_ : Unit) => Value.int .i64 0) () A B row hs.2.2.1 hg hr, Nat.le_trans hs.2.2.2 hg.size⟩) _) (ownFrom_below (Nat.le_refl _) (by omega)))
   (fun c => OwnFrom.and (Own.from (fun s A B row hs hg hr => by obtain ⟨hc, ini, x, e1, e2, e3, e4⟩ := hs; exact ⟨hc, ini, x, e1, e2, e3, boxed_own (w.heap.size + 1) 3 (fun (_ : Unit) => Value.int .i64 x.2.f2) () A B row e4 hg hr⟩) _) (ownFrom_below (Nat.le_refl _) (by omega)))
   ⟨⟨eval_name.Not.nil _ _, q3, b1, Nat.le_refl _⟩, hB0⟩
   (fun x a' W => ∃ Bx, w.heap.size + 1 < Bx ∧ (W.cell? ⟨Bx, 1, none⟩ = some (.string x.2.f1) ∧ W.cell? ⟨Bx, 2, none⟩ = some (.int .i64 x.2.f2)) ∧ a' = { tmps := #[.agg #[.int .i64 a0_0, .int .i64 a0_1, .string a0_2, .string a0_3, .int .i64 a0_4, .int .i64 a0_5, .int .i64 a0_6], .string a1, .slice A2 l2.length c2, .slice A3 l3.length c3, .pointer (some ⟨w.heap.size, 0, none⟩), undef, undef, undef, .pointer (some ⟨w.heap.size + 1, 0, none⟩), undef, .pointer (some ⟨Bx, 0, none⟩), undef, undef, .pointer (some ⟨w.heap.size, 2, none⟩), .string a0_2, .bool true, .slice A2 l2.length c2, .func (.func 28) #[] #[.pointer (some ⟨w.heap.size + 1 + 1, 0, none⟩)], .int .i64 x.1, .agg #[.string x.2.f0, .string x.2.f1, .int .i64 x.2.f2], undef, undef, undef, undef, undef, undef, undef, undef, undef, undef, undef, undef, undef, undef, undef, undef, undef, undef], defers := [] })
   (fun x a' _ X Y row hs hg hr => by obtain ⟨Bx, h1, ⟨h2, h3⟩, h4⟩ := hs; exact ⟨Bx, h1, ⟨cell_kept h2 hg (fun r e => (hr r e).2), cell_kept h3 hg (fun r e => (hr r e).2)⟩, h4⟩)
   ?assign ?body ?done ?stop
  case assign =>
   rintro l pre x W K ⟨⟨hN, hq, hbx, hsW⟩, hB1⟩ hK
   gi_wp2
   have hp := eval_name.put_below W x.2
   have hc := eval_name.put_blk W x.2
   exact hK _ (eval_name.put W x.2) ((eval_name.put_keeps W x.2).from _) (hp.mono hsW) ⟨⟨hN, pw_cell_below hp hq, (hp.block _ hbx.lt).trans hbx, Nat.le_trans hsW hp.size⟩, below_step hB1 hp⟩ ⟨W.heap.size, by omega, ⟨(blk_cell hc 1).trans rfl, (blk_cell hc 2).trans rfl⟩, rfl⟩
  case body =>
   rintro l pre x a' W hl ⟨r, hr⟩ ⟨⟨hN, hq, hbx, hsW⟩, hB1⟩ ⟨Bx, hBx, ⟨g1, g2⟩, rfl⟩ hlt
   have cR := hbx.cell
   have fR := hbx.frozen
   have HN := za hN
   have HB1 := za hB1
   have HBX : Aside0 (Boxed W (w.heap.size + 1) 3 (.int .i64 0)) := ⟨hbx⟩
   clear hN hB1 hbx
   by_cases hx : x.2.f1.toList = a0_3.toList
   ·
    have hxb : (x.2.f1.toList == a0_3.toList) = true := beq_iff_eq.mpr hx
    have HX := za hx
    clear hx
    gi_wp2
    exact ⟨(KeepsOthers.setCell _ _ _).from _, ⟨rfl, pre, x, rfl, HN.out, HX.out, HBX.out.set _⟩, HB1.out.setCell (p := ⟨w.heap.size + 1, 0, none⟩) (by simp) _⟩
   ·
    have hxb : (x.2.f1.toList == a0_3.toList) = false := beq_eq_false_iff_ne.mpr hx
    have HX := za hx
    clear hx
    gi_wp2
    exact ⟨KeepsFrom.refl _ _, Below.refl _ _, ⟨HN.out.step HX.out, hq, HBX.out, hsW⟩, HB1.out⟩
  case done =>
   rintro D ys W hD rfl ⟨⟨hN, hq, hbx, hsW⟩, hB1⟩ hK
   have h := H.out
   rw [hN.all] at h
   rw [if_neg (by simp)] at h
   obtain ⟨⟨g1, g2⟩, hg, h⟩ := Option.bind_eq_some_iff.mp h
   obtain rfl : g1 = r := by simpa using h
   have HG := za hg
   have HB1 := za hB1
   have HBX : Aside0 (Boxed W (w.heap.size + 1) 3 (.int .i64 0)) := ⟨hbx⟩
   have HK := za hK
   clear h hg hN hB1 hbx hK
   gi_wp2_with (gi_at_call 16; refine (callsIn_wide.2 (memory_Get.calls k A3 c3 l3 a1 a0_3 g1 g2 _ (Kd.C_below HR3.out HB1.out) HC3.out HG.out)).mono ?_; rintro e w5 ⟨rfl, hb5⟩; have HB5 := za (below_step HB1.out hb5); have BK5 : Aside0 (Boxed w5 (w.heap.size + 1) 3 (.int .i64 0)) := ⟨blk_below HBX.out hb5⟩; have HK5 := za (blk_below HK.out hb5); have c8 := BK5.out.cell; have f8 := BK5.out.frozen; clear hb5)
   have hK' := (KeepsOthers.setCell w5 ⟨w.heap.size + 1, 0, none⟩ (.int .i64 g1)).same D _ HK5.out rfl
   have cs := (BK5.out.set (.int .i64 g1)).cell
   have hc5 := cell_kept cs (grownBy_putObj' _ D (.deferred none)) (fun r e => by cases e; exact ⟨_, hK', rfl⟩)
   refine ⟨by simp, .inl ⟨_, _, rfl, run_takeDeferred hK', ?_⟩⟩
   refine ⟨.int .i64 g1, ?_, rfl, (HB5.out.setCell (p := ⟨w.heap.size + 1, 0, none⟩) (by simp) _).trans (belowK_b (w := w) (Nat.le_refl _) _ D _ _ (by omega) hK' rfl rfl)⟩
   simp [results, Try.f11, go_sem, hc5]
  case stop =>
   rintro D c pre W hD ⟨k', hk', rfl⟩ ⟨⟨rfl, ini, x, e1, e2, e3, hbx⟩, hB⟩ hK
   have h := H.out
   rw [e2.found e3 e1.symm hk', if_pos (by rfl)] at h
   obtain rfl := Option.some.inj h
   have hc5 := cell_kept hbx.cell (grownBy_putObj' _ D (.deferred none)) (fun r e => by cases e; exact ⟨_, hK, rfl⟩)
   clear h
   gi_wp2
   refine ⟨by simp, .inl ⟨_, _, rfl, run_takeDeferred hK, ?_⟩⟩
   refine ⟨.int .i64 x.2.f2, ?_, rfl, hB.trans (belowK_b (w := w) (Nat.le_refl _) W D _ _ (by omega) hK rfl rfl)⟩
   simp [results, Try.f11, go_sem, hc5]
 ·
  rw [if_neg hm] at h
  have hmb : (!a0_2.toList.isEmpty) = true := by simpa using hm
  have hmc : a0_2.toList.isEmpty = false := by simpa using hm
  obtain ⟨⟨b1, b2⟩, hg, h⟩ := Option.bind_eq_some_iff.mp h
  obtain rfl : b1 = r := by simpa using h
  have HG := za hg
  clear h hg
  gi_wp2_with (gi_at_call 16; refine (callsIn_wide.2 (memory_Get.calls k A3 c3 l3 a0_2 a0_3 b1 b2 _ (Kd.C_below HR3.out (Below.alloc (Below.alloc (Below.refl _ w) (Nat.le_refl _) _) (by simp) _)) HC3.out HG.out)).mono ?_; rintro e w5 ⟨rfl, hb5⟩; have HB5 := za (below_step (Below.alloc (Below.alloc (Below.refl _ w) (Nat.le_refl _) _) (by simp) _) hb5); have BK5 := za (blk_below (g := w.heap.size + 1) (o := .cells #[.int .i64 0] 3 (0, 0)) (by have := blk_new (w.alloc (.cells #[.int .i64 a0_0, .int .i64 a0_1, .string a0_2, .string a0_3, .int .i64 a0_4, .int .i64 a0_5, .int .i64 a0_6] 48 (0, 0))) (.cells #[.int .i64 0] 3 (0, 0)); simpa using this) hb5); have c8 := (blk_cell BK5.out 0).trans rfl; have f8 := blk_frozen BK5.out 0; clear hb5)
  have c5 : (w5.setCell ⟨w.heap.size + 1, 0, none⟩ (.int .i64 b1)).cell? ⟨w.heap.size + 1, 0, none⟩ = some (.int .i64 b1) := World.cell?_setCell_same' _ _ _ (by rw [c8]; rfl)
  refine ⟨.int .i64 b1, ?_, rfl, HB5.out.setCell (p := ⟨w.heap.size + 1, 0, none⟩) (by simp) _⟩
  simp [results, Try.f11, go_sem, c5]
end
def eval_Value.kid (vs : List Int) (i k : Int) : Int := if k < 0 then 0 else if k ≥ i then 0 else rd vs k
structure eval_Value.VX (w W : World) (bs n cap b11 : Nat) (vs : List Int) : Prop where
 ho : Kd.R (Kd.int .i64) 3 W w.heap.size (fun _ => True) (.slice (some ⟨bs, 0, none⟩) n cap) vs
 h11 : W.heap[b11]? = some (.cells #[.slice (some ⟨bs, 0, none⟩) n cap] 46 (0, 0))
 hB : Below w.heap.size w W
 g11 : w.heap.size ≤ b11
namespace eval_Value
variable {w W W' : World} {bs n cap b11 b12 : Nat} {vs : List Int} {i : Int}
theorem VX.ne (x : VX w W bs n cap b11 vs) : bs ≠ b11 := by
 have h := Kd.R_ne x.ho x.h11 (by decide)
 simpa [Value.ownBlock, eq_comm] using h
theorem VX.below (x : VX w W bs n cap b11 vs) (hb : Below W.heap.size W W') : VX w W' bs n cap b11 vs := ⟨Kd.R_below x.ho hb, blk_below x.h11 hb, below_step x.hB hb, x.g11⟩
theorem VX.lt (x : VX w W bs n cap b11 vs) : bs < W.heap.size ∧ b11 < W.heap.size ∧ w.heap.size ≤ W.heap.size := ⟨Kd.R_lt x.ho bs rfl, blk_lt x.h11, x.hB.size⟩
theorem VX.far (x : VX w W bs n cap b11 vs) {g j : Nat} (h1 : bs ≠ g) (h2 : b11 ≠ g) (h3 : w.heap.size ≤ g) (u : Value) : VX w (W.setCell ⟨g, j, none⟩ u) bs n cap b11 vs :=
 ⟨Kd.R_mono (Kd.R_far (p := ⟨g, j, none⟩) (Kd.R_tight rfl x.ho) (fun k hk => by
  have : some k = some bs := hk
  cases this
  exact h1) u) (fun _ _ => trivial), blk_far x.h11 h2 u, below_set x.hB h3, x.g11⟩
theorem VX.cell (x : VX w W bs n cap b11 vs) (k : Int) (h0 : 0 ≤ k) (h1 : k < n) : W.cell? ⟨bs, k.toNat, none⟩ = some (.int .i64 (rd vs k)) := by
 obtain ⟨ad, e, h⟩ := Kd.at_int (Kd.R_reads' x.ho).2.2 k h0 (by rw [← (Kd.R_reads' x.ho).1]; exact h1)
 cases e
 simpa [add_plain] using h
theorem VX.put (x : VX w W bs n cap b11 vs) (k v : Int) : VX w (W.setCell ⟨bs, k.toNat, none⟩ (.int .i64 v)) bs n cap b11 (vs.set k.toNat v) :=
 ⟨Kd.R_putn (h1 := fun _ => rfl) (enc := Value.int .i64) x.ho k v, blk_far x.h11 (Ne.symm x.ne) _, below_set x.hB (Kd.R_base x.ho bs rfl), x.g11⟩
theorem VX.drewN (x : VX w W bs n cap b11 vs) (m : Nat) : VX w (W.drewN m) bs n cap b11 vs := ⟨x.ho, x.h11, pw_below_drewN x.hB m, x.g11⟩
theorem VX.drew (x : VX w W bs n cap b11 vs) : VX w W.drew bs n cap b11 vs := ⟨x.ho, x.h11, x.hB.drew, x.g11⟩
def lay (w4 : World) (b12 b13 : Nat) (x : Int) (n : S48) : World := ((((((((w4.setCell ⟨b12, 0, none⟩ (.int .i64 x)).setCell ⟨b13, 0, none⟩ (.int .i64 n.f0)).setCell ⟨b13, 1, none⟩ (.int .i64 n.f1)).setCell ⟨b13, 2, none⟩ (.string n.f2)).setCell ⟨b13, 3, none⟩ (.string n.f3)).setCell ⟨b13, 4, none⟩ (.int .i64 n.f4)).setCell ⟨b13, 5, none⟩ (.int .i64 n.f5)).setCell ⟨b13, 6, none⟩ (.int .i64 n.f6))
theorem lay_13 {w4 : World} {b12 b13 : Nat} {x : Int} {n : S48} (h13 : w4.heap[b13]? = some (.cells #[.int .i64 0, .int .i64 0, .string (⟨#[]⟩ : ByteArray), .string (⟨#[]⟩ : ByteArray), .int .i64 0, .int .i64 0, .int .i64 0] 48 (0, 0))) (hne : b13 ≠ b12) : (lay w4 b12 b13 x n).heap[b13]? = some (.cells #[.int .i64 n.f0, .int .i64 n.f1, .string n.f2, .string n.f3, .int .i64 n.f4, .int .i64 n.f5, .int .i64 n.f6] 48 (0, 0)) :=
 (blk_put (cs' := #[.int .i64 n.f0, .int .i64 n.f1, .string n.f2, .string n.f3, .int .i64 n.f4, .int .i64 n.f5, .int .i64 n.f6]) (blk_put (cs' := #[.int .i64 n.f0, .int .i64 n.f1, .string n.f2, .string n.f3, .int .i64 n.f4, .int .i64 n.f5, .int .i64 0]) (blk_put (cs' := #[.int .i64 n.f0, .int .i64 n.f1, .string n.f2, .string n.f3, .int .i64 n.f4, .int .i64 0, .int .i64 0]) (blk_put (cs' := #[.int .i64 n.f0, .int .i64 n.f1, .string n.f2, .string n.f3, .int .i64 0, .int .i64 0, .int .i64 0]) (blk_put (cs' := #[.int .i64 n.f0, .int .i64 n.f1, .string n.f2, .string (⟨#[]⟩ : ByteArray), .int .i64 0, .int .i64 0, .int .i64 0]) (blk_put (cs' := #[.int .i64 n.f0, .int .i64 n.f1, .string (⟨#[]⟩ : ByteArray), .string (⟨#[]⟩ : ByteArray), .int .i64 0, .int .i64 0, .int .i64 0]) (blk_put (cs' := #[.int .i64 n.f0, .int .i64 0, .string (⟨#[]⟩ : ByteArray), .string (⟨#[]⟩ : ByteArray), .int .i64 0, .int .i64 0, .int .i64 0]) (blk_far h13 (p := ⟨b12, 0, none⟩) hne _) 0 (.int .i64 n.f0) rfl) 1 (.int .i64 n.f1) rfl) 2 (.string n.f2) rfl) 3 (.string n.f3) rfl) 4 (.int .i64 n.f4) rfl) 5 (.int .i64 n.f5) rfl) 6 (.int .i64 n.f6) rfl)
theorem lay_12 {w4 : World} {b12 b13 : Nat} {x : Int} {n : S48} (h12 : w4.heap[b12]? = some (.cells #[.int .i64 0] 3 (0, 0))) (hne : b13 ≠ b12) : (lay w4 b12 b13 x n).heap[b12]? = some (.cells #[.int .i64 x] 3 (0, 0)) :=
 (blk_far (blk_far (blk_far (blk_far (blk_far (blk_far (blk_far (blk_put h12 0 (.int .i64 x) rfl) (p := ⟨b13, 0, none⟩) (Ne.symm hne) _) (p := ⟨b13, 1, none⟩) (Ne.symm hne) _) (p := ⟨b13, 2, none⟩) (Ne.symm hne) _) (p := ⟨b13, 3, none⟩) (Ne.symm hne) _) (p := ⟨b13, 4, none⟩) (Ne.symm hne) _) (p := ⟨b13, 5, none⟩) (Ne.symm hne) _) (p := ⟨b13, 6, none⟩) (Ne.symm hne) _)
theorem VX.lay {w4 : World} {b13 : Nat} {x : Int} {nd : S48} (h : VX w w4 bs n cap b11 vs) (a1 : bs ≠ b12) (a2 : b11 ≠ b12) (a3 : w.heap.size ≤ b12) (c1 : bs ≠ b13) (c2 : b11 ≠ b13) (c3 : w.heap.size ≤ b13) : VX w (lay w4 b12 b13 x nd) bs n cap b11 vs :=
 ((((((((h.far a1 a2 a3 _).far c1 c2 c3 _).far c1 c2 c3 _).far c1 c2 c3 _).far c1 c2 c3 _).far c1 c2 c3 _).far c1 c2 c3 _).far c1 c2 c3 _)
theorem VX.cells (x : VX w W bs n cap b11 vs) (k : Int) (h0 : 0 ≤ k) (h1 : k < n) : W.cell? ⟨bs, k.toNat, none⟩ = some (.int .i64 (rd vs k)) ∧ W.frozen? ⟨bs, k.toNat, none⟩ = false := ⟨x.cell k h0 h1, (Kd.R_celln (h1 := fun _ => rfl) (enc := Value.int .i64) (0 : Int) x.ho k h0 h1).2⟩
theorem kid_calls (k : Int) (x : VX w W bs n cap b11 vs) (h12 : W.heap[b12]? = some (.cells #[.int .i64 i] 3 (0, 0))) (hi : i ≤ n) :
  Calls Try.prog 10 #[.int .i64 k, .pointer (some ⟨b12, 0, none⟩), .pointer (some ⟨b11, 0, none⟩)] W fun e w' => e = .returned (.int .i64 (kid vs i k)) ∧ W = w' := by
 have c12 : W.cell? ⟨b12, 0, none⟩ = some (.int .i64 i) := (blk_cell h12 0).trans rfl
 have c11 : W.cell? ⟨b11, 0, none⟩ = some (.slice (some ⟨bs, 0, none⟩) n cap) := (blk_cell x.h11 0).trans rfl
 have X0 := za x
 clear x h12
 by_cases h0 : k < 0
 ·
  have hk : kid vs i k = 0 := by unfold kid; rw [if_pos h0]
  have HK := za hk
  clear hk
  have hb : decide (k < 0) = true := decide_eq_true h0
  go_enter Try.func10, Try.ntmps10
  go_wp2
  go_ret
  exact ⟨by rw [HK.out]; rfl, rfl⟩
 ·
  have hb : decide (k < 0) = false := decide_eq_false h0
  by_cases h1 : k ≥ i
  ·
   have hk : kid vs i k = 0 := by unfold kid; rw [if_neg h0, if_pos h1]
   have HK := za hk
   clear hk
   have hc : decide (i ≤ k) = true := decide_eq_true h1
   go_enter Try.func10, Try.ntmps10
   go_wp2
   go_ret
   exact ⟨by rw [HK.out]; rfl, rfl⟩
  ·
   have hk : kid vs i k = rd vs k := by unfold kid; rw [if_neg h0, if_neg h1]
   have HK := za hk
   clear hk
   have hc : decide (i ≤ k) = false := decide_eq_false h1
   have p0 : (0 ≤ k) = True := eq_true (by omega)
   have p1 : (k < (n : Int)) = True := eq_true (by omega)
   have cc := X0.out.cell k (by omega) (by omega)
   go_enter Try.func10, Try.ntmps10
   go_wp2
   go_ret
   exact ⟨by rw [HK.out]; rfl, rfl⟩
end eval_Value
def eval_Value.node (k : Nat) (vs : List Int) (i : Int) (n : S48) (a2 : ByteArray) (l3 l4 : List S63) : Option Int :=
 if n.f0 = 1 then (some n.f1) else (if n.f0 = 2 then (eval_name.f k n.f0 n.f1 n.f2 n.f3 n.f4 n.f5 n.f6 a2 l3 l4) else (eval_Op.f n.f0 (eval_Value.kid vs i n.f4) (eval_Value.kid vs i n.f5)))
def eval_Value.l0 : Nat → List S48 → Int → ByteArray → List S63 → List S63 → List Int → Int → Option Int
 | 0, _, _, _, _, _, _, _ => none
 | k + 1, l0, a1, a2, l3, l4, vs, i => if i < a1 + 1 then ((eval_Value.node k vs i (rd_T48 l0 i) a2 l3 l4).bind fun v => (eval_Value.l0 k l0 a1 a2 l3 l4 (vs.set i.toNat v) (i + 1))) else (some (rd vs a1))
def eval_Value.f (k : Nat) (l0 : List S48) (a1 : Int) (a2 : ByteArray) (l3 l4 : List S63) : Option Int :=
 if a1 < 0 then (some 0) else (if a1 ≥ (l0.length : Int) then (some 0) else (if l0.length ≤ 35184372088832 then (eval_Value.l0 k l0 a1 a2 l3 l4 (List.replicate (a1 + 1).toNat 0) 0) else none))
theorem eval_Value.node.mono : ∀ a0 a1 a2 a3 a4 a5 k, LeO (eval_Value.node k a0 a1 a2 a3 a4 a5) (eval_Value.node (k + 1) a0 a1 a2 a3 a4 a5) := by
 intro a0 a1 a2 a3 a4 a5 k
 unfold eval_Value.node
 repeat' with_reducible first | apply eval_name.mono | exact LeO.refl _ | refine LeO.ite ?_ ?_
theorem eval_Value.mono_l : ∀ k, (∀ y0 y1 y2 y3 y4 y5 y6, LeO (eval_Value.l0 k y0 y1 y2 y3 y4 y5 y6) (eval_Value.l0 (k + 1) y0 y1 y2 y3 y4 y5 y6))
 | 0 => fun _ _ _ _ _ _ _ r h => by simp [eval_Value.l0] at h
 | k + 1 => by
  have ih0 := eval_Value.mono_l k
  ·
   intro y0 y1 y2 y3 y4 y5 y6
   unfold eval_Value.l0
   repeat' with_reducible first | apply ih0 | apply eval_Value.node.mono | exact LeO.refl _ | exact LeO.none _ | refine LeO.ite ?_ ?_ | refine LeO.bind ?_ (fun _ => ?_)
theorem eval_Value.mono : ∀ a0 a1 a2 a3 a4 k, LeO (eval_Value.f k a0 a1 a2 a3 a4) (eval_Value.f (k + 1) a0 a1 a2 a3 a4) := by
 intro a0 a1 a2 a3 a4 k
 have ih0 := eval_Value.mono_l k
 unfold eval_Value.f
 repeat' with_reducible first | apply ih0 | apply eval_Value.node.mono | exact LeO.refl _ | exact LeO.none _ | refine LeO.ite ?_ ?_ | refine LeO.bind ?_ (fun _ => ?_)
theorem eval_Value.calls (k : Nat) (A0 : Option Addr) (c0 : Nat) (l0 : List S48) (a1 : Int) (a2 : ByteArray) (A3 : Option Addr) (c3 : Nat) (l3 : List S63) (A4 : Option Addr) (c4 : Nat) (l4 : List S63) (r : Int) (w : World) (hr0 : Kd.C k48 w A0 l0.length l0) (hc0 : l0.length ≤ c0) (hr3 : Kd.C k63 w A3 l3.length l3) (hc3 : l3.length ≤ c3) (hr4 : Kd.C k63 w A4 l4.length l4) (hc4 : l4.length ≤ c4) (h : eval_Value.f k l0 a1 a2 l3 l4 = some r) :
  Calls Try.prog 7 #[.slice A0 l0.length c0, .int .i64 a1, .string a2, .slice A3 l3.length c3, .slice A4 l4.length c4] w fun e w' => e = .returned (.int .i64 r) ∧ Below w.heap.size w w' := by
 have hu73 := Try.underlying48
 have HR0 := za hr0
 have HR3 := za hr3
 have HR4 := za hr4
 have HC0 := za hc0
 have HC3 := za hc3
 have HC4 := za hc4
 clear hr0 hr3 hr4 hc0 hc3 hc4
 unfold eval_Value.f at h
 by_cases h0 : a1 < 0
 ·
  rw [if_pos h0] at h
  obtain rfl := Option.some.inj h
  have hb : decide (a1 < 0) = true := decide_eq_true h0
  go_enter Try.func7, Try.ntmps7
  go_wp2
  go_ret
  exact ⟨rfl, Below.refl _ _⟩
 rw [if_neg h0] at h
 have hb0 : decide (a1 < 0) = false := decide_eq_false h0
 by_cases h1 : a1 ≥ (l0.length : Int)
 ·
  rw [if_pos h1] at h
  obtain rfl := Option.some.inj h
  have hb : decide ((l0.length : Int) ≤ a1) = true := decide_eq_true h1
  go_enter Try.func7, Try.ntmps7
  go_wp2
  go_ret
  exact ⟨rfl, Below.refl _ _⟩
 rw [if_neg h1] at h
 have hb1 : decide ((l0.length : Int) ≤ a1) = false := decide_eq_false h1
 by_cases h2 : l0.length ≤ 35184372088832
 case neg => rw [if_neg h2] at h; cases h
 rw [if_pos h2] at h
 have H := za h
 have hp0 : 0 ≤ a1 := by omega
 have hp1 : a1 < (l0.length : Int) := by omega
 have hp2 : a1 + 1 ≤ (l0.length : Int) := by omega
 have hp3 : (l0.length : Int) ≤ 35184372088832 := by omega
 clear h h0 h1
 have hp4 : a1 + 1 ≤ (c0 : Int) := by have := HC0.out; omega
 have hq := eq_true hp0
 obtain ⟨vs0, hvs⟩ : ∃ vs0, vs0 = List.replicate (a1 + 1).toNat (0 : Int) := ⟨_, rfl⟩
 have HV := za hvs
 have hv1 : a1 + 1 ≤ (vs0.length : Int) := by rw [hvs, List.length_replicate]; omega
 have hv2 : (vs0.length : Int) ≤ a1 + 1 := by rw [hvs, List.length_replicate]; omega
 clear hvs
 have HV2 : Aside0 (0 < vs0.length) := ⟨by omega⟩
 have hmax : max (a1 + 1) 0 = a1 + 1 := by omega
 go_enter Try.func7, Try.ntmps7
 go_wp2_with (first | ((with_reducible refine gate_dst (N := 25) rfl ?_); refine Kd.R_make (Kd.int .i64) _ 3 rfl (N := 25) rfl 46 _ _ rfl (a1 + 1) rfl rfl Try.underlying46 (.int .i64 0) 8 info3 rfl (by decide) (by omega) 0 (ok := fun _ => True) (okp := fun _ => True) rfl (fun _ hk => hk) trivial (by omega) (by omega) (Below.refl _ _) (Nat.le_refl _) ?_; intro v1 w1 ho hb hg_ hnew_; clear hg_ hnew_; rw [← HV.out] at ho; obtain ⟨bs, cap, rfl, hbs, hbl, _⟩ := Kd.R_form ho HV2.out; have HO := za ho; have HB := za hb; clear ho hb hbs hbl) | ((with_reducible refine gate_dst (N := 11) rfl ?_); refine box_event ?hg (N := 11) ?hd (cs := #[.slice none 0 0]) (t := 46) ?hr ?_; (case hd => rfl); (case hg => rfl); (case hr => exact zq39); intro b11 hg w2 hbox hb; have BK := za hbox; have HB2 := za hb; have GW := za hg; clear hbox hb hg; have q0 := (blk_cell BK.out 0).trans rfl; have f0 := blk_frozen BK.out 0))
 clear q0 f0
 have X0 : Aside0 (eval_Value.VX w (w2.setCell ⟨b11, 0, none⟩ (.slice (some ⟨bs, 0, none⟩) vs0.length cap)) bs vs0.length cap b11 vs0) := by
  have hlt := Kd.R_lt HO.out bs rfl
  have hne : bs ≠ b11 := by rw [GW.out]; omega
  refine ⟨?_, blk_put BK.out 0 _ rfl, below_set (below_step HB.out HB2.out) (by rw [GW.out]; exact HB.out.size), by rw [GW.out]; exact HB.out.size⟩
  refine Kd.R_mono (Kd.R_far (p := ⟨b11, 0, none⟩) (Kd.R_tight rfl (Kd.R_below HO.out HB2.out)) (fun k hk => ?_) _) (fun _ _ => trivial)
  have : some k = some bs := hk
  cases this
  exact hne
 rw [← HV.out] at H
 generalize w2.setCell ⟨b11, 0, none⟩ (.slice (some ⟨bs, 0, none⟩) vs0.length cap) = W2 at X0 ⊢
 clear BK HB HB2 GW HO HV HV2
 go_loopw [31] (fun i W => ∃ (kq : Nat) (vs : List Int) (x : Int), i = .int .i64 x ∧ 0 ≤ x ∧ x ≤ a1 + 1 ∧ Aside0 (eval_Value.l0 kq l0 a1 a2 l3 l4 vs x = some r) ∧ Aside0 (eval_Value.VX w W bs vs0.length cap b11 vs)) (fun i _ => (a1 + 1 - intOf i).toNat)
 case atStart => exact ⟨k, vs0, 0, rfl, by omega, by omega, H, X0⟩
 case round =>
  clear X0 H
  obtain ⟨kq, vs, x, rfl, hx0, hx1, HA, X0⟩ := hrel
  cases kq with
  | zero => exact absurd HA.out (by simp [eval_Value.l0])
  | succ kj =>
  have H := HA.out
  clear HA
  simp only [eval_Value.l0] at H
  by_cases hlt : x < a1 + 1
  ·
   rw [if_pos hlt] at H
   obtain ⟨v, hv, H⟩ := Option.bind_eq_some_iff.mp H
   have HV := za hv
   have HN := za H
   clear hv H
   have hxl : x < (l0.length : Int) := by omega
   obtain ⟨ad, ea, e0, e1, e2, e3, e4, e5, e6⟩ := at_T48 HR0.out x hx0 hxl
   cases ea
   replace e0 := (X0.out.hB.cell (World.block_lt_of_cell? w _ e0)).trans e0
   replace e1 := (X0.out.hB.cell (World.block_lt_of_cell? w _ e1)).trans e1
   replace e2 := (X0.out.hB.cell (World.block_lt_of_cell? w _ e2)).trans e2
   replace e3 := (X0.out.hB.cell (World.block_lt_of_cell? w _ e3)).trans e3
   replace e4 := (X0.out.hB.cell (World.block_lt_of_cell? w _ e4)).trans e4
   replace e5 := (X0.out.hB.cell (World.block_lt_of_cell? w _ e5)).trans e5
   replace e6 := (X0.out.hB.cell (World.block_lt_of_cell? w _ e6)).trans e6
   have p0 := eq_true hx0
   have p1 : (x < ((a1 + 1).toNat : Int)) = True := eq_true (by omega)
   go_upto_region 7 with (first | ((with_reducible refine gate_dst (N := 12) rfl ?_); refine box_event ?hg (N := 12) ?hd (cs := #[.int .i64 0]) (t := 3) ?hr ?_; (case hd => rfl); (case hg => rfl); (case hr => exact zq39); intro b12 hg w3 hbox hb; have BK12 := za hbox; have HB3 := za hb; have GW12 := za hg; clear hbox hb hg) | ((with_reducible refine gate_dst (N := 13) rfl ?_); refine box_event ?hg (N := 13) ?hd (cs := #[.int .i64 0, .int .i64 0, .string (⟨#[]⟩ : ByteArray), .string (⟨#[]⟩ : ByteArray), .int .i64 0, .int .i64 0, .int .i64 0]) (t := 48) ?hr ?_; (case hd => rfl); (case hg => rfl); (case hr => exact zq39); intro b13 hg w4 hbox hb; have BK13 := za hbox; have HB4 := za hb; have GW13 := za hg; have BK12' := za (blk_below BK12.out hb); clear hbox hb hg; have u0 := (blk_cell BK12'.out 0).trans rfl; have g0 := blk_frozen BK12'.out 0; have n1 : b12 ≠ b13 := blk_ne BK12'.out BK13.out (by decide); have n2 := Ne.symm n1; have t0 := (blk_cell BK13.out 0).trans rfl; have t1 := (blk_cell BK13.out 1).trans rfl; have t2 := (blk_cell BK13.out 2).trans rfl; have t3 := (blk_cell BK13.out 3).trans rfl; have t4 := (blk_cell BK13.out 4).trans rfl; have t5 := (blk_cell BK13.out 5).trans rfl; have t6 := (blk_cell BK13.out 6).trans rfl; have k0 := blk_frozen BK13.out 0; have k1 := blk_frozen BK13.out 1; have k2 := blk_frozen BK13.out 2; have kk3 := blk_frozen BK13.out 3; have k4 := blk_frozen BK13.out 4; have k5 := blk_frozen BK13.out 5; have k6 := blk_frozen BK13.out 6))
   clear e0 e1 e2 e3 e4 e5 e6 u0 g0 t0 t1 t2 t3 t4 t5 t6 k0 k1 k2 kk3 k4 k5 k6
   have B13 := za (eval_Value.lay_13 (x := x) (n := rd_T48 l0 x) BK13.out n2)
   have B12 := za (eval_Value.lay_12 (x := x) (n := rd_T48 l0 x) BK12'.out n2)
   have X5 : Aside0 (eval_Value.VX w (eval_Value.lay w4 b12 b13 x (rd_T48 l0 x)) bs vs0.length cap b11 vs) := by
    have l0_ := X0.out.lt
    have l1_ := HB3.out.size
    have l2_ := GW12.out
    have l3_ := GW13.out
    exact ⟨((X0.out.below HB3.out).below HB4.out).lay (by omega) (by omega) (by omega) (by omega) (by omega) (by omega)⟩
   have D12 : Aside0 (bs ≠ b12) := ⟨by have l0_ := X0.out.lt; have l2_ := GW12.out; omega⟩
   have D13 : Aside0 (bs ≠ b13) := ⟨by have l0_ := X0.out.lt; have l1_ := HB3.out.size; have l3_ := GW13.out; omega⟩
   show Code.wp Try.prog _ _ _ (eval_Value.lay w4 b12 b13 x (rd_T48 l0 x))
   generalize eval_Value.lay w4 b12 b13 x (rd_T48 l0 x) = W5 at B13 B12 X5 ⊢
   clear BK12 BK12' BK13 HB3 HB4 GW12 GW13 X0
   have m0 := (blk_cell B13.out 0).trans rfl
   have m1 := (blk_cell B13.out 1).trans rfl
   have m2 := (blk_cell B13.out 2).trans rfl
   have m3 := (blk_cell B13.out 3).trans rfl
   have m4 := (blk_cell B13.out 4).trans rfl
   have m5 := (blk_cell B13.out 5).trans rfl
   have m6 := (blk_cell B13.out 6).trans rfl
   have m12 := (blk_cell B12.out 0).trans rfl
   have m11 := (blk_cell X5.out.h11 0).trans rfl
   have hxn : x < (vs0.length : Int) := by omega
   obtain ⟨s1, s2⟩ := X5.out.cells x hx0 hxn
   have p2 := eq_true hxn
   by_cases hk1 : (rd_T48 l0 x).f0 = 1
   ·
    have hkb : ((rd_T48 l0 x).f0 == 1) = true := beq_iff_eq.mpr hk1
    have hve : Aside0 ((rd_T48 l0 x).f1 = v) := ⟨by have := HV.out; unfold eval_Value.node at this; rw [if_pos hk1] at this; exact Option.some.inj this⟩
    clear hk1
    go_wp2
    go_roundw
    case rel => exact ⟨kj, _, x + 1, by go_num, by omega, by omega, HN, ⟨by rw [← hve.out]; exact X5.out.put x _⟩⟩
    case measure => simp [intOf]; omega
   have hkb : ((rd_T48 l0 x).f0 == 1) = false := beq_eq_false_iff_ne.mpr hk1
   by_cases hk2 : (rd_T48 l0 x).f0 = 2
   ·
    have hkc : ((rd_T48 l0 x).f0 == 2) = true := beq_iff_eq.mpr hk2
    have hve : Aside0 (eval_name.f kj (rd_T48 l0 x).f0 (rd_T48 l0 x).f1 (rd_T48 l0 x).f2 (rd_T48 l0 x).f3 (rd_T48 l0 x).f4 (rd_T48 l0 x).f5 (rd_T48 l0 x).f6 a2 l3 l4 = some v) := ⟨by have := HV.out; unfold eval_Value.node at this; rw [if_neg hk1, if_pos hk2] at this; exact this⟩
    clear hk1 hk2
    go_wp2
    go_region_held3 (fun w' => w'.cell? ⟨b11, 0, none⟩ = some (.slice (some ⟨bs, 0, none⟩) vs0.length cap) ∧ w'.cell? ⟨b12, 0, none⟩ = some (.int .i64 x) ∧ w'.cell? ⟨b13, 0, none⟩ = some (.int .i64 (rd_T48 l0 x).f0) ∧ w'.cell? ⟨b13, 1, none⟩ = some (.int .i64 (rd_T48 l0 x).f1) ∧ w'.cell? ⟨b13, 2, none⟩ = some (.string (rd_T48 l0 x).f2) ∧ w'.cell? ⟨b13, 3, none⟩ = some (.string (rd_T48 l0 x).f3) ∧ w'.cell? ⟨b13, 4, none⟩ = some (.int .i64 (rd_T48 l0 x).f4) ∧ w'.cell? ⟨b13, 5, none⟩ = some (.int .i64 (rd_T48 l0 x).f5) ∧ w'.cell? ⟨b13, 6, none⟩ = some (.int .i64 (rd_T48 l0 x).f6)) (first | go_keep | (exact ⟨(blk_cell (X6.out.put x v).h11 0).trans rfl, (blk_cell (blk_far C12.out (p := ⟨bs, x.toNat, none⟩) (Ne.symm D12.out) _) 0).trans rfl, (blk_cell (blk_far C13.out (p := ⟨bs, x.toNat, none⟩) (Ne.symm D13.out) _) 0).trans rfl, (blk_cell (blk_far C13.out (p := ⟨bs, x.toNat, none⟩) (Ne.symm D13.out) _) 1).trans rfl, (blk_cell (blk_far C13.out (p := ⟨bs, x.toNat, none⟩) (Ne.symm D13.out) _) 2).trans rfl, (blk_cell (blk_far C13.out (p := ⟨bs, x.toNat, none⟩) (Ne.symm D13.out) _) 3).trans rfl, (blk_cell (blk_far C13.out (p := ⟨bs, x.toNat, none⟩) (Ne.symm D13.out) _) 4).trans rfl, (blk_cell (blk_far C13.out (p := ⟨bs, x.toNat, none⟩) (Ne.symm D13.out) _) 5).trans rfl, (blk_cell (blk_far C13.out (p := ⟨bs, x.toNat, none⟩) (Ne.symm D13.out) _) 6).trans rfl⟩) | (exact ⟨(blk_cell X6.out.h11 0).trans rfl, (blk_cell C12.out 0).trans rfl, (blk_cell C13.out 0).trans rfl, (blk_cell C13.out 1).trans rfl, (blk_cell C13.out 2).trans rfl, (blk_cell C13.out 3).trans rfl, (blk_cell C13.out 4).trans rfl, (blk_cell C13.out 5).trans rfl, (blk_cell C13.out 6).trans rfl⟩)) ((go_at_call 11; refine (eval_name.calls kj _ _ _ _ _ _ _ a2 A3 c3 l3 A4 c4 l4 v _ (Kd.C_below HR3.out (by first | exact X5.out.hB | exact X5.out.drew.hB | exact (X5.out.drewN _).hB)) HC3.out (Kd.C_below HR4.out (by first | exact X5.out.hB | exact X5.out.drew.hB | exact (X5.out.drewN _).hB)) HC4.out hve.out).mono ?_; rintro e w6 ⟨rfl, hb6⟩; have X6 := za (X5.out.drew.below hb6); have C13 := za (blk_below (blk_drew B13.out) hb6); have C12 := za (blk_below (blk_drew B12.out) hb6); obtain ⟨s1', s2'⟩ := X6.out.cells x hx0 hxn))
    all_goals
     go_wp2
     go_roundw
     case rel => exact ⟨kj, _, x + 1, by go_num, by omega, by omega, HN, ⟨X6.out.put x v⟩⟩
     case measure => simp [intOf]; omega
   ·
    have hkc : ((rd_T48 l0 x).f0 == 2) = false := beq_eq_false_iff_ne.mpr hk2
    have hve : Aside0 (eval_Op.f (rd_T48 l0 x).f0 (eval_Value.kid vs x (rd_T48 l0 x).f4) (eval_Value.kid vs x (rd_T48 l0 x).f5) = some v) := ⟨by have := HV.out; unfold eval_Value.node at this; rw [if_neg hk1, if_neg hk2] at this; exact this⟩
    clear hk1 hk2
    have hxv : x ≤ (vs0.length : Int) := by omega
    go_wp2
    go_region_held3 (fun w' => w'.cell? ⟨b11, 0, none⟩ = some (.slice (some ⟨bs, 0, none⟩) vs0.length cap) ∧ w'.cell? ⟨b12, 0, none⟩ = some (.int .i64 x) ∧ w'.cell? ⟨b13, 0, none⟩ = some (.int .i64 (rd_T48 l0 x).f0) ∧ w'.cell? ⟨b13, 1, none⟩ = some (.int .i64 (rd_T48 l0 x).f1) ∧ w'.cell? ⟨b13, 2, none⟩ = some (.string (rd_T48 l0 x).f2) ∧ w'.cell? ⟨b13, 3, none⟩ = some (.string (rd_T48 l0 x).f3) ∧ w'.cell? ⟨b13, 4, none⟩ = some (.int .i64 (rd_T48 l0 x).f4) ∧ w'.cell? ⟨b13, 5, none⟩ = some (.int .i64 (rd_T48 l0 x).f5) ∧ w'.cell? ⟨b13, 6, none⟩ = some (.int .i64 (rd_T48 l0 x).f6)) (first | go_keep | (exact ⟨(blk_cell (X5.out.h11) 0).trans rfl, (blk_cell B12.out 0).trans rfl, (blk_cell B13.out 0).trans rfl, (blk_cell B13.out 1).trans rfl, (blk_cell B13.out 2).trans rfl, (blk_cell B13.out 3).trans rfl, (blk_cell B13.out 4).trans rfl, (blk_cell B13.out 5).trans rfl, (blk_cell B13.out 6).trans rfl⟩) | (exact ⟨(blk_cell (X5.out.put x v).h11 0).trans rfl, (blk_cell (blk_far B12.out (p := ⟨bs, x.toNat, none⟩) (Ne.symm D12.out) (.int .i64 v)) 0).trans rfl, (blk_cell (blk_far B13.out (p := ⟨bs, x.toNat, none⟩) (Ne.symm D13.out) (.int .i64 v)) 0).trans rfl, (blk_cell (blk_far B13.out (p := ⟨bs, x.toNat, none⟩) (Ne.symm D13.out) (.int .i64 v)) 1).trans rfl, (blk_cell (blk_far B13.out (p := ⟨bs, x.toNat, none⟩) (Ne.symm D13.out) (.int .i64 v)) 2).trans rfl, (blk_cell (blk_far B13.out (p := ⟨bs, x.toNat, none⟩) (Ne.symm D13.out) (.int .i64 v)) 3).trans rfl, (blk_cell (blk_far B13.out (p := ⟨bs, x.toNat, none⟩) (Ne.symm D13.out) (.int .i64 v)) 4).trans rfl, (blk_cell (blk_far B13.out (p := ⟨bs, x.toNat, none⟩) (Ne.symm D13.out) (.int .i64 v)) 5).trans rfl, (blk_cell (blk_far B13.out (p := ⟨bs, x.toNat, none⟩) (Ne.symm D13.out) (.int .i64 v)) 6).trans rfl⟩)) (first | (go_at_call 10; refine (eval_Value.kid_calls _ X5.out.drew (blk_drew B12.out) hxv).mono ?_; rintro e w6 ⟨rfl, rfl⟩) | (go_at_call 8; refine (eval_Op.calls _ _ _ v _ hve.out).mono ?_; rintro e w6 ⟨rfl, ⟨nd, rfl⟩⟩))
    all_goals
     go_wp2
     go_roundw
     case rel => exact ⟨kj, _, x + 1, by go_num, by omega, by omega, HN, ⟨by first | exact (X5.out.drewN _).put x v | exact (X5.out.drew.drewN _).put x v⟩⟩
     case measure => simp [intOf]; omega
  ·
   rw [if_neg hlt] at H
   obtain rfl := Option.some.inj H
   have hxe : a1 + 1 ≤ x := by omega
   have hbb : decide (x < a1 + 1) = false := decide_eq_false hlt
   have hxn : a1 < (vs0.length : Int) := by omega
   obtain ⟨s1, s2⟩ := X0.out.cells a1 hp0 hxn
   have p2 := eq_true hxn
   have m11 := (blk_cell X0.out.h11 0).trans rfl
   go_wp2
   go_ret
   exact ⟨rfl, X0.out.hB⟩
end Go.Proofs.Ytcmpmlklednhbaa.QEvalJoins
