import Derived.Test.YtiaeldibklcobaaZRPWLast
import Derived.Test.YtiaeldibklcobaaZRPWWords
namespace Go.Proofs.YtiaeldibklcobaaW.fV
open Go.Proofs.YtiaeldibklcobaaW.bL (aG)
def Lu (md : Region.Mode) (o : Oper) : List Nat := (o.after.toList.filter (fun e => Region.binds md e)).map (fun e => e.on)
def NG (md : Region.Mode) (ops : Array Oper) (i : Nat) (oi : Oper) : List Nat := (List.range ops.size).filter fun j => !(j == i) && match ops[j]? with
 | some oj => !(oj.after.any (fun e => Region.binds md e && e.on == i) || oi.apart ops oj)
 | none => false
def oL (md : Region.Mode) (ops : Array Oper) : Bool × List (List Nat × List Nat) := (Region.noSelect ops, (List.range ops.size).map fun i => match ops[i]? with
 | some o => (Lu md o, NG md ops i o)
 | none => ([], []))
def Cc (T : List (List Nat × List Nat)) (l : List Bool) (i : Nat) : Bool := !l.getD i true && match T[i]? with
 | some r => r.1.all (fun j => l.getD j false)
 | none => false
def Od (T : List (List Nat × List Nat)) (l : List Bool) : List Nat := (List.range T.length).filter (Cc T l)
def SG (T : List (List Nat × List Nat)) (l : List Bool) (i : Nat) : Bool := match T[i]? with
 | some r => r.2.all (fun j => l.getD j true)
 | none => false
def Zf (T : List (List Nat × List Nat)) (l : List Bool) : Bool := (List.range T.length).all fun j => !l.getD j false || match T[j]? with
 | some r => r.1.all (fun k => l.getD k false)
 | none => true
def Vx (T : List (List Nat × List Nat)) (i : Nat) : Nat → Nat → Bool
 | 0, _ => false
 | fuel + 1, d => match T[d]? with
  | some r => r.1.any fun j => j == i || Vx T i fuel j
  | none => false
def lastT (T : List (List Nat × List Nat)) (l : List Bool) (ds : List Nat) (i : Nat) : Bool := ds.all fun d => l.getD d true || Vx T i T.length d
section
variable {md : Region.Mode} {ops : Array Oper} {T : Bool × List (List Nat × List Nat)} {l l' li lj lk : Array Bool} {ds : List Nat} {i j k : Nat}
theorem gd (l : Array Bool) (j : Nat) (b : Bool) : l.getD j b = l.toList.getD j b := by simp [Array.getD_eq_getD_getElem?, List.getD_eq_getElem?_getD]
theorem JY (o : Oper) (p : Nat → Bool) : o.after.all (fun e => !Region.binds md e || p e.on) = (Lu md o).all p := by
 unfold Lu
 rw [← Array.all_toList]
 induction o.after.toList with
 | nil => rfl
 | cons e r ih =>
  rw [List.all_cons, ih, List.filter_cons]
  cases h : Region.binds md e <;> simp
theorem ou (o : Oper) (p : Nat → Bool) : o.after.any (fun e => Region.binds md e && p e.on) = (Lu md o).any p := by
 unfold Lu
 rw [← Array.any_toList]
 induction o.after.toList with
 | nil => rfl
 | cons e r ih =>
  rw [List.any_cons, ih, List.filter_cons]
  cases h : Region.binds md e <;> simp
theorem Ce : (oL md ops).2.length = ops.size := by simp [oL]
theorem Lv {o : Oper} (h : ops[i]? = some o) : (oL md ops).2[i]? = some (Lu md o, NG md ops i o) := by
 have hi := (Array.getElem?_eq_some_iff.1 h).1
 unfold oL
 rw [List.getElem?_map, List.getElem?_range hi, Option.map_some, h]
theorem Lx (h : ops[i]? = none) : (oL md ops).2[i]? = none := by
 have hi : ops.size ≤ i := Array.getElem?_eq_none_iff.1 h
 exact List.getElem?_eq_none (by rw [Ce]; exact hi)
theorem E8 : Cc (oL md ops).2 l.toList i = (!l.getD i true && ((ops[i]?).map (·.after.all fun e => !Region.binds md e || l.getD e.on false)).getD false) := by
 unfold Cc
 rw [gd]
 cases h : ops[i]? with
 | none => rw [Lx h]; rfl
 | some o =>
  rw [Lv h]
  simp only [Option.map_some, Option.getD_some]
  rw [← JY]
  simp only [gd]
theorem ready_eq : Region.ready md ops l = Od (oL md ops).2 l.toList := by
 unfold Region.ready Od
 rw [Ce]
 refine List.filter_congr (fun i _ => ?_)
 rw [E8]
theorem free_eq : Region.free md ops l i = SG (oL md ops).2 l.toList i := by
 unfold Region.free SG
 cases h : ops[i]? with
 | none => rw [Lx h]
 | some oi =>
  rw [Lv h]
  simp only [NG]
  rw [List.all_filter]
  congr 1
  funext j
  rw [gd]
  cases hj : ops[j]? with
  | none => cases (j == i) <;> cases (l.toList.getD j true) <;> simp
  | some oj =>
   cases (j == i) <;> cases (l.toList.getD j true) <;> cases (oj.after.any (fun e => Region.binds md e && e.on == i) || oi.apart ops oj) <;> simp_all
theorem ow : Region.Qb md ops l = Zf (oL md ops).2 l.toList := by
 unfold Region.Qb Zf
 rw [Ce]
 congr 1
 funext j
 rw [gd]
 cases h : ops[j]? with
 | none => rw [Lx h]
 | some o =>
  rw [Lv h]
  simp only
  rw [← JY]
  simp only [gd]
theorem SH : ∀ (fuel d : Nat), Region.yR md ops i fuel d = Vx (oL md ops).2 i fuel d
 | 0, _ => rfl
 | fuel + 1, d => by
  unfold Region.yR Vx
  cases h : ops[d]? with
  | none => rw [Lx h]
  | some o =>
   rw [Lv h]
   simp only
   rw [← ou]
   congr 1
   funext e
   rw [SH fuel]
theorem aEq : Region.lastB md ops l ds i = lastT (oL md ops).2 l.toList ds i := by
 unfold Region.lastB lastT
 rw [Ce]
 congr 1
 funext d
 rw [gd, SH]
theorem Xf (h : Cc T.2 l.toList i = true) (hT : oL md ops = T) : (Region.ready md ops l).contains i = true := by
 subst hT
 rw [ready_eq]
 unfold Od
 rw [List.contains_iff_mem, List.mem_filter, List.mem_range]
 refine ⟨?_, h⟩
 unfold Cc at h
 rw [Bool.and_eq_true] at h
 cases hq : (oL md ops).2[i]? with
 | none => rw [hq] at h; simp at h
 | some r => exact (List.getElem?_eq_some_iff.1 hq).1
theorem CO (h : (l.toList.set i true == l'.toList) = true) : (l.setIfInBounds i true == l') = true := by
 rw [beq_iff_eq] at h ⊢
 apply Array.ext'
 rw [Array.toList_setIfInBounds]
 exact h
def aEr (T : Bool × List (List Nat × List Nat)) (l l' : List Bool) (i : Nat) : Bool := T.1 && SG T.2 l i && Cc T.2 l i && (l.set i true == l')
theorem yh (hT : oL md ops = T) (h : aEr T l.toList l'.toList i = true) : aEk md ops l l' i = true := by
 simp only [aEr, Bool.and_eq_true] at h
 obtain ⟨⟨⟨h1, h2⟩, h3⟩, h4⟩ := h
 have h5 := Xf h3 hT
 have h6 := CO h4
 subst hT
 simp only [aEk, Bool.and_eq_true]
 exact ⟨⟨⟨h1, by rw [free_eq]; exact h2⟩, h5⟩, h6⟩
def yj (T : Bool × List (List Nat × List Nat)) (ds : List Nat) (l l' : List Bool) (i : Nat) : Bool := T.1 && SG T.2 l i && Cc T.2 l i && Zf T.2 l && lastT T.2 l ds i && (l.set i true == l')
theorem aEs (hT : oL md ops = T) (h : yj T ds l.toList l'.toList i = true) : takeB md ops ds l l' i = true := by
 simp only [yj, Bool.and_eq_true] at h
 obtain ⟨⟨⟨⟨⟨h1, h2⟩, h3⟩, h4⟩, h5⟩, h6⟩ := h
 have h7 := Xf h3 hT
 have h8 := CO h6
 subst hT
 simp only [takeB, Bool.and_eq_true]
 exact ⟨⟨⟨⟨⟨h1, by rw [free_eq]; exact h2⟩, h7⟩, by rw [ow]; exact h4⟩, by rw [aEq]; exact h5⟩, h8⟩
theorem Ad (hT : oL md ops = T) (h : (Od T.2 l.toList == [i] && l.toList.set i true == l'.toList) = true) : Vu md ops l l' i = true := by
 simp only [Bool.and_eq_true] at h
 obtain ⟨h1, h2⟩ := h
 subst hT
 simp only [Vu, Bool.and_eq_true]
 exact ⟨by rw [ready_eq]; exact h1, CO h2⟩
theorem yl (hT : oL md ops = T) (h : (Od T.2 l.toList == [i, j] && l.toList.set i true == li.toList && l.toList.set j true == lj.toList) = true) : (Region.ready md ops l == [i, j] && l.setIfInBounds i true == li && l.setIfInBounds j true == lj) = true := by
 simp only [Bool.and_eq_true] at h ⊢
 obtain ⟨⟨h1, h2⟩, h3⟩ := h
 subst hT
 exact ⟨⟨by rw [ready_eq]; exact h1, CO h2⟩, CO h3⟩
theorem jX (hT : oL md ops = T) (h : (Od T.2 l.toList == []) = true) : (Region.ready md ops l == []) = true := by
 subst hT
 rw [ready_eq]
 exact h
def upM (B : List Nat) (d : Nat) : List Nat → Nat
 | [] => 0
 | n :: r => (2 ^ n ||| (if n < d then B.getD n 0 else 0)) ||| upM B d r
def kH (T : List (List Nat × List Nat)) (B : List Nat) : Bool := (List.range T.length).all fun d => match T[d]? with
 | some r => (B.getD d 0 ||| upM B d r.1) == upM B d r.1
 | none => false
theorem Q7 {B : List Nat} {d i : Nat} : ∀ {ns : List Nat}, (upM B d ns).testBit i = true → ∃ n ∈ ns, n = i ∨ (n < d ∧ (B.getD n 0).testBit i = true)
 | [], h => by simp [upM] at h
 | n :: r, h => by
  unfold upM at h
  rw [Nat.testBit_or, Nat.testBit_or, Bool.or_eq_true, Bool.or_eq_true] at h
  rcases h with (h | h) | h
  ·
   rw [Nat.testBit_two_pow] at h
   exact ⟨n, List.mem_cons_self, .inl (by simpa using h)⟩
  ·
   by_cases hn : n < d
   ·
    rw [if_pos hn] at h
    exact ⟨n, List.mem_cons_self, .inr ⟨hn, h⟩⟩
   ·
    rw [if_neg hn] at h
    simp at h
  ·
   obtain ⟨m, hm, h2⟩ := Q7 h
   exact ⟨m, List.mem_cons_of_mem _ hm, h2⟩
theorem JZ {T : List (List Nat × List Nat)} {B : List Nat} (hB : kH T B = true) : ∀ (fuel d : Nat), d < fuel → d < T.length → (B.getD d 0).testBit i = true → Vx T i fuel d = true
 | 0, d, h, _, _ => by omega
 | fuel + 1, d, h, hd, hb => by
  have h1 := List.all_eq_true.1 hB d (List.mem_range.2 hd)
  cases hr : T[d]? with
  | none => rw [hr] at h1; simp at h1
  | some r =>
   rw [hr] at h1
   simp only [beq_iff_eq] at h1
   have h2 : (upM B d r.1).testBit i = true := by rw [← h1, Nat.testBit_or, hb, Bool.true_or]
   obtain ⟨n, hn, h3⟩ := Q7 h2
   unfold Vx
   rw [hr]
   simp only
   rw [List.any_eq_true]
   refine ⟨n, hn, ?_⟩
   rcases h3 with rfl | ⟨h4, h5⟩
   ·
    simp
   ·
    rw [JZ hB fuel n (by omega) (by omega) h5, Bool.or_true]
def aJn (T : List (List Nat × List Nat)) (B : List Nat) (l : List Bool) (ds : List Nat) (i : Nat) : Bool := ds.all fun d => l.getD d true || (decide (d < T.length) && (B.getD d 0).testBit i)
def ym (T : Bool × List (List Nat × List Nat)) (B : List Nat) (ds : List Nat) (l l' : List Bool) (i : Nat) : Bool := T.1 && SG T.2 l i && Cc T.2 l i && Zf T.2 l && aJn T.2 B l ds i && (l.set i true == l')
theorem yn {B : List Nat} (hT : oL md ops = T) (hB : kH T.2 B = true) (h : ym T B ds l.toList l'.toList i = true) : takeB md ops ds l l' i = true := by
 refine aEs hT ?_
 simp only [ym, yj, Bool.and_eq_true] at h ⊢
 obtain ⟨⟨⟨⟨⟨h1, h2⟩, h3⟩, h4⟩, h5⟩, h6⟩ := h
 refine ⟨⟨⟨⟨⟨h1, h2⟩, h3⟩, h4⟩, ?_⟩, h6⟩
 unfold aJn at h5
 unfold lastT
 rw [List.all_eq_true] at h5 ⊢
 intro d hd
 have h7 := h5 d hd
 rw [Bool.or_eq_true, Bool.and_eq_true, decide_eq_true_eq] at h7
 rcases h7 with h7 | ⟨h8, h9⟩
 ·
  rw [h7, Bool.true_or]
 ·
  rw [JZ hB _ d h8 h8 h9, Bool.or_true]
theorem gX {P : Program} {Q : Exit → Act → World → Prop} {S : World → Prop} {n : Nat} {a : Act} {w : World} {B : List Nat} (hT : oL md ops = T) (hB : kH T.2 B = true) (h : aG (oL md ops = T) → aG (kH T.2 B = true) → eH P md ops Q S ds n l a w) : eH P md ops Q S ds n l a w := h ⟨hT⟩ ⟨hB⟩
end
def Mq : Code → Nat → Option (Array Oper)
 | .region id ops _, k => if id == k then some ops else none
 | .seq a b, k => match Mq a k with
  | some o => some o
  | none => Mq b k
 | .cond _ a b, k => match Mq a k with
  | some o => some o
  | none => Mq b k
 | .block _ c, k => Mq c k
 | .loop c, k => Mq c k
 | .scope c, k => Mq c k
 | .rangeFunc _ _ a b, k => match Mq a k with
  | some o => some o
  | none => Mq b k
 | _, _ => none
def opsOf (f : Func) (k : Nat) : Array Oper := ((f.body.bind fun c => Mq c k)).getD #[]
end Go.Proofs.YtiaeldibklcobaaW.fV
