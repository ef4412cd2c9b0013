/- The statement RunBranches over numbers: an if runs the one, or the other; what is in neither changes nothing. No further condition. -/
import Derived.Test.YtcjnhnnfoadklaaZRBx17
namespace Go.Proofs.Ytcjnhnnfoadklaa.Pure
open Go.RowKit Go.Proofs.Ytcjnhnnfoadklaa.QRunBranches Go.Proofs.YtcjnhnnfoadklaaW.PrintWords Go.Proofs.YtcjnhnnfoadklaaW.PrintLast
set_option linter.unusedVariables false
set_option linter.unusedSimpArgs false
set_option maxRecDepth 100000
abbrev Cell := S61
abbrev Mod := S39
abbrev Stm := S91
abbrev Prc := S44
abbrev RT := rn.RT
theorem w64 {n : Int} (h0 : -4503599627370496 ≤ n := by omega) (h1 : n ≤ 4503599627370496 := by omega) : wrap64 n = n := by unfold wrap64; omega
theorem bs {α β} (x : α) (f : α → Option β) : (some x).bind f = f x := rfl
abbrev e0 : ByteArray := ⟨#[]⟩
abbrev nm : ByteArray := ⟨#[109]⟩
abbrev np : ByteArray := ⟨#[112]⟩
abbrev nx : ByteArray := ⟨#[120]⟩
abbrev ny : ByteArray := ⟨#[121]⟩
abbrev nc : ByteArray := ⟨#[99]⟩
abbrev nt : ByteArray := ⟨#[116]⟩
abbrev na : ByteArray := ⟨#[97]⟩
abbrev nu : ByteArray := ⟨#[117]⟩
def mk : ByteArray × Int × (List S116) × (List S64) × (List Prc) × Int × Int := (nm,7,[],[⟨nx,na,0,14⟩,⟨ny,na,0,29⟩],[⟨np,[⟨nc,na,47⟩],false,e0,na,[nt,nu],[⟨5,75,e0,e0,e0,false,e0,e0,[⟨2,0,e0,nc,(-1),(-1),78⟩],[],[⟨2,82,e0,nx,e0,false,e0,e0,[⟨1,1,e0,e0,(-1),(-1),86⟩],[],[],[]⟩,⟨7,89,e0,nt,e0,false,e0,e0,[],[],[],[]⟩],[⟨2,106,e0,ny,e0,false,e0,e0,[⟨1,2,e0,e0,(-1),(-1),110⟩],[],[],[]⟩,⟨7,113,e0,nu,e0,false,e0,e0,[],[],[],[]⟩]⟩,⟨5,123,e0,e0,e0,false,e0,e0,[⟨2,0,e0,nc,(-1),(-1),126⟩],[],[],[]⟩,⟨5,132,e0,e0,e0,false,e0,e0,[⟨2,0,e0,nc,(-1),(-1),137⟩,⟨4,0,e0,e0,0,(-1),135⟩],[],[⟨2,141,e0,ny,e0,false,e0,e0,[⟨2,0,e0,ny,(-1),(-1),145⟩,⟨1,1,e0,e0,(-1),(-1),149⟩,⟨5,0,e0,e0,0,1,147⟩],[],[],[]⟩],[]⟩],45⟩],0,0)
abbrev TX : ByteArray := (⟨#[109,111,100,117,108,101,32,109,59,32,118,97,114,32,120,32,58,32,97,32,61,32,48,59,32,118,97,114,32,121,32,58,32,97,32,61,32,48,59,32,112,114,111,99,32,112,40,99,32,58,32,97,41,32,112,99,32,97,32,117,115,101,115,32,123,32,116,44,32,117,32,125,32,123,32,105,102,32,99,32,123,32,120,32,61,32,49,59,32,101,109,105,116,32,116,59,32,125,32,101,108,115,101,32,123,32,121,32,61,32,50,59,32,101,109,105,116,32,117,59,32,125,32,105,102,32,99,32,123,32,125,32,105,102,32,33,32,99,32,123,32,121,32,61,32,121,32,43,32,49,59,32,125,32,125]⟩ : ByteArray)
theorem parse_ev : Ev (fun n => ra_Parse.f n TX) mk := Ev.of (fun n => ra_Parse.mono _ n) (k := 900) (by kernel_rfl)
def L : List Mod := [⟨mk.1, mk.2.1, mk.2.2.1, mk.2.2.2.1, mk.2.2.2.2.1⟩]
def mem (x y : Int) : List Cell := [⟨nm, nx, x⟩, ⟨nm, ny, y⟩]
def lc (c : Int) : List Cell := [⟨(⟨#[]⟩ : ByteArray), nc, c⟩]
def prc : Prc := mk.2.2.2.2.1.getD 0 z44
def I (j : Nat) : Stm := prc.f6.getD j z91
def s1 : Stm := (I 0).f10.getD 0 z91
def s2 : Stm := (I 0).f10.getD 1 z91
def s3 : Stm := (I 0).f11.getD 0 z91
def s4 : Stm := (I 0).f11.getD 1 z91
def s5 : Stm := (I 2).f10.getD 0 z91
theorem find_ok : rn.find L nm np 1 = (prc, true) := by kernel_rfl
theorem begin_ev : Ev (fun n => rb_Begin.f n L) (mem 0 0) := Ev.of (fun n => rb_Begin.mono _ n) (k := 60) (by kernel_rfl)
theorem awaket : Ev (fun k => aquiferlaw22_awake.f k) true := Ev.of (fun k => aquiferlaw22_awake.mono k) (k := 400) (by kernel_rfl)
theorem loc0 (c : Int) : rn.locs prc.f1 [c] = lc c := by kernel_rfl
theorem prc6 : prc.f6 = [I 0, I 1, I 2] := by kernel_rfl
theorem b10 : (I 0).f10 = [s1, s2] := by kernel_rfl
theorem b11 : (I 0).f11 = [s3, s4] := by kernel_rfl
theorem b20 : (I 1).f10 = [] := by kernel_rfl
theorem b21 : (I 1).f11 = [] := by kernel_rfl
theorem b30 : (I 2).f10 = [s5] := by kernel_rfl
theorem b31 : (I 2).f11 = [] := by kernel_rfl
theorem evI0 (c x y : Int) : eV.f 201 (I 0).f8 (((I 0).f8.length : Int) - 1) nm (lc c) (mem x y) = some c := by kernel_rfl
theorem evI1 (c x y : Int) : eV.f 201 (I 1).f8 (((I 1).f8.length : Int) - 1) nm (lc c) (mem x y) = some c := by kernel_rfl
theorem evI2 (c x y : Int) : eV.f 201 (I 2).f8 (((I 2).f8.length : Int) - 1) nm (lc c) (mem x y) = (eval_Op.f 4 c 0).bind fun v => some v := by kernel_rfl
theorem op_not (c : Int) (h : c ≠ 0) : eval_Op.f 4 c 0 = some 0 := by
 unfold eval_Op.f eval_truth.f
 simp [h]
theorem op_not0 : eval_Op.f 4 0 0 = some 1 := by kernel_rfl
theorem ev1 (c x y : Int) : eV.f 200 s1.f8 ((s1.f8.length : Int) - 1) nm (lc c) (mem x y) = some 1 := by kernel_rfl
theorem ev3 (c x y : Int) : eV.f 200 s3.f8 ((s3.f8.length : Int) - 1) nm (lc c) (mem x y) = some 2 := by kernel_rfl
theorem ev5 (c x y : Int) : eV.f 200 s5.f8 ((s5.f8.length : Int) - 1) nm (lc c) (mem x y) = some (wrap64 (y + 1)) := by kernel_rfl
theorem set1 (c x y v fu : Int) (tr : List ByteArray) : rn.setn 200 nm s1.f2 s1.f3 v (mem x y, fu, tr, lc c, 0) = some (mem v y, fu, tr, lc c, 0) := by kernel_rfl
theorem set3 (c x y v fu : Int) (tr : List ByteArray) : rn.setn 200 nm s3.f2 s3.f3 v (mem x y, fu, tr, lc c, 0) = some (mem x v, fu, tr, lc c, 0) := by kernel_rfl
theorem set5 (c x y v fu : Int) (tr : List ByteArray) : rn.setn 200 nm s5.f2 s5.f3 v (mem x y, fu, tr, lc c, 0) = some (mem x v, fu, tr, lc c, 0) := by kernel_rfl
theorem stmt_succ (k : Nat) (mod : ByteArray) (s : Stm) (st : RT) : rn.stmt (k + 1) mod s st =
  (if st.2.1 = 0 then some (false, st)
  else if s.f0 = 2 then (eV.f k s.f8 ((s.f8.length : Int) - 1) mod st.2.2.2.1 st.1).bind fun v => (rn.setn k mod s.f2 s.f3 v (rn.payd st)).bind fun st2 => some (true, st2)
  else if s.f0 = 3 then (eV.f k s.f8 ((s.f8.length : Int) - 1) mod st.2.2.2.1 st.1).bind fun v => some (true, st.1, wrap64 (st.2.1 - 1), st.2.2.1, st.2.2.2.1, v)
  else if s.f0 = 5 then (eV.f k s.f8 ((s.f8.length : Int) - 1) mod st.2.2.2.1 st.1).bind fun v => if v = 0 then rn.blk (rn.stmt k mod) st.2.2.2.1.length s.f11 (rn.payd st) else rn.blk (rn.stmt k mod) st.2.2.2.1.length s.f10 (rn.payd st)
  else if s.f0 = 7 then (if st.2.2.1.length < 8796093022000 then some (true, st.1, wrap64 (st.2.1 - 1), st.2.2.1 ++ [s.f3], st.2.2.2) else none)
  else if s.f0 = 8 then some (true, st.1, wrap64 (st.2.1 - 1), st.2.2.1, st.2.2.2.1, st.2.2.2.2)
  else none) := by rw [rn.stmt]
theorem payd_eq (m : List Cell) (fu : Int) (tr : List ByteArray) (loc : List Cell) (res : Int) : rn.payd (m, fu, tr, loc, res) = (m, wrap64 (fu - 1), tr, loc, res) := rfl
theorem st_zero (k : Nat) (s : Stm) (m : List Cell) (tr : List ByteArray) (loc : List Cell) (res : Int) : rn.stmt (k + 1) nm s (m, 0, tr, loc, res) = some (false, m, 0, tr, loc, res) := by
 rw [stmt_succ, if_pos rfl]
theorem st_set (k : Nat) (s : Stm) (m m2 : List Cell) (fu v : Int) (tr : List ByteArray) (loc : List Cell) (he : eV.f k s.f8 ((s.f8.length : Int) - 1) nm loc m = some v) (hs : rn.setn k nm s.f2 s.f3 v (m, fu - 1, tr, loc, 0) = some (m2, fu - 1, tr, loc, 0)) (h2 : s.f0 = 2 := by kernel_rfl) (h0 : fu ≠ 0 := by omega) (h9 : -1000 ≤ fu ∧ fu ≤ 1000 := by omega) :
  rn.stmt (k + 1) nm s (m, fu, tr, loc, 0) = some (true, m2, fu - 1, tr, loc, 0) := by
 rw [stmt_succ, if_neg h0, if_pos h2]
 dsimp only
 rw [he, bs, payd_eq, w64 (n := fu - 1), hs, bs]
theorem st_emit (k : Nat) (s : Stm) (m : List Cell) (fu : Int) (loc : List Cell) (h7 : s.f0 = 7 := by kernel_rfl) (h0 : fu ≠ 0 := by omega) (h9 : -1000 ≤ fu ∧ fu ≤ 1000 := by omega) :
  rn.stmt (k + 1) nm s (m, fu, [], loc, 0) = some (true, m, fu - 1, [s.f3], loc, 0) := by
 rw [stmt_succ, if_neg h0, if_neg (by rw [h7]; decide), if_neg (by rw [h7]; decide), if_neg (by rw [h7]; decide), if_pos h7]
 dsimp only
 rw [if_pos (by decide), w64 (n := fu - 1)]
 rfl
theorem st_if (k : Nat) (s : Stm) (m : List Cell) (fu v : Int) (tr : List ByteArray) (loc : List Cell) (he : eV.f k s.f8 ((s.f8.length : Int) - 1) nm loc m = some v) (h5 : s.f0 = 5 := by kernel_rfl) (h0 : fu ≠ 0 := by omega) (h9 : -1000 ≤ fu ∧ fu ≤ 1000 := by omega) :
  rn.stmt (k + 1) nm s (m, fu, tr, loc, 0) = if v = 0 then rn.blk (rn.stmt k nm) loc.length s.f11 (m, fu - 1, tr, loc, 0) else rn.blk (rn.stmt k nm) loc.length s.f10 (m, fu - 1, tr, loc, 0) := by
 rw [stmt_succ, if_neg h0, if_neg (by rw [h5]; decide), if_neg (by rw [h5]; decide), if_pos h5]
 dsimp only
 rw [he, bs, payd_eq, w64 (n := fu - 1)]
theorem blk_true {f : Stm → RT → Option (Bool × RT)} {n : Nat} {s : Stm} {t : List Stm} {st st2 : RT} (h : f s st = some (true, st2)) : rn.blk f n (s :: t) st = rn.blk f n t st2 := by
 rw [rn.blk, h, bs, if_pos rfl]
theorem blk_false {f : Stm → RT → Option (Bool × RT)} {n : Nat} {s : Stm} {t : List Stm} {st st2 : RT} (h : f s st = some (false, st2)) : rn.blk f n (s :: t) st = some (false, st2) := by
 rw [rn.blk, h, bs, if_neg Bool.false_ne_true]
theorem blk_nil (f : Stm → RT → Option (Bool × RT)) (c : Int) (m : List Cell) (fu : Int) (tr : List ByteArray) : rn.blk f 1 [] (m, fu, tr, lc c, 0) = some (true, m, fu, tr, lc c, 0) := by
 rw [rn.blk]
 rfl
abbrev B (c F : Int) := rn.blk (rn.stmt (201 + 1) nm) 1 [I 0, I 1, I 2] (mem 0 0, F, [], lc c, 0)
theorem run_hi (c F : Int) (hc : c ≠ 0) (h0 : 5 ≤ F) (h1 : F ≤ 500) : B c F = some (true, mem 1 0, F - 5, [nt], lc c, 0) := by
 have a1 : rn.stmt (201 + 1) nm (I 0) (mem 0 0, F, [], lc c, 0) = some (true, mem 1 0, F - 3, [nt], lc c, 0) := by
  rw [st_if 201 (I 0) _ F c [] (lc c) (evI0 c 0 0), if_neg hc, b10]
  show rn.blk (rn.stmt (200 + 1) nm) 1 [s1, s2] (mem 0 0, F - 1, [], lc c, 0) = _
  rw [blk_true (st_set 200 s1 _ (mem 1 0) (F - 1) 1 [] (lc c) (ev1 c 0 0) (set1 c 0 0 1 _ [])), blk_true (st_emit 200 s2 _ (F - 1 - 1) (lc c)), blk_nil, show F - 1 - 1 - 1 = F - 3 by omega, show s2.f3 = nt by kernel_rfl]
 have a2 : rn.stmt (201 + 1) nm (I 1) (mem 1 0, F - 3, [nt], lc c, 0) = some (true, mem 1 0, F - 4, [nt], lc c, 0) := by
  rw [st_if 201 (I 1) _ (F - 3) c [nt] (lc c) (evI1 c 1 0), if_neg hc, b20]
  show rn.blk (rn.stmt (200 + 1) nm) 1 [] (mem 1 0, F - 3 - 1, [nt], lc c, 0) = _
  rw [blk_nil, show F - 3 - 1 = F - 4 by omega]
 have a3 : rn.stmt (201 + 1) nm (I 2) (mem 1 0, F - 4, [nt], lc c, 0) = some (true, mem 1 0, F - 5, [nt], lc c, 0) := by
  have e := evI2 c 1 0
  rw [op_not c hc, bs] at e
  rw [st_if 201 (I 2) _ (F - 4) 0 [nt] (lc c) e, if_pos rfl, b31]
  show rn.blk (rn.stmt (200 + 1) nm) 1 [] (mem 1 0, F - 4 - 1, [nt], lc c, 0) = _
  rw [blk_nil, show F - 4 - 1 = F - 5 by omega]
 unfold B
 rw [blk_true a1, blk_true a2, blk_true a3, blk_nil]
theorem run_lo (F : Int) (h0 : 5 ≤ F) (h1 : F ≤ 500) : (F = 5 → B 0 F = some (false, mem 0 2, 0, [nu], lc 0, 0)) ∧ (6 ≤ F → B 0 F = some (true, mem 0 3, F - 6, [nu], lc 0, 0)) := by
 have a1 : rn.stmt (201 + 1) nm (I 0) (mem 0 0, F, [], lc 0, 0) = some (true, mem 0 2, F - 3, [nu], lc 0, 0) := by
  rw [st_if 201 (I 0) _ F 0 [] (lc 0) (evI0 0 0 0), if_pos rfl, b11]
  show rn.blk (rn.stmt (200 + 1) nm) 1 [s3, s4] (mem 0 0, F - 1, [], lc 0, 0) = _
  rw [blk_true (st_set 200 s3 _ (mem 0 2) (F - 1) 2 [] (lc 0) (ev3 0 0 0) (set3 0 0 0 2 _ [])), blk_true (st_emit 200 s4 _ (F - 1 - 1) (lc 0)), blk_nil, show F - 1 - 1 - 1 = F - 3 by omega, show s4.f3 = nu by kernel_rfl]
 have a2 : rn.stmt (201 + 1) nm (I 1) (mem 0 2, F - 3, [nu], lc 0, 0) = some (true, mem 0 2, F - 4, [nu], lc 0, 0) := by
  rw [st_if 201 (I 1) _ (F - 3) 0 [nu] (lc 0) (evI1 0 0 2), if_pos rfl, b21]
  show rn.blk (rn.stmt (200 + 1) nm) 1 [] (mem 0 2, F - 3 - 1, [nu], lc 0, 0) = _
  rw [blk_nil, show F - 3 - 1 = F - 4 by omega]
 have e := evI2 0 0 2
 rw [op_not0, bs] at e
 have a3 : rn.stmt (201 + 1) nm (I 2) (mem 0 2, F - 4, [nu], lc 0, 0) = rn.blk (rn.stmt (200 + 1) nm) 1 [s5] (mem 0 2, F - 5, [nu], lc 0, 0) := by
  rw [st_if 201 (I 2) _ (F - 4) 1 [nu] (lc 0) e, if_neg (by decide), b30, show F - 4 - 1 = F - 5 by omega]
  rfl
 constructor
 ·
  intro h5
  subst h5
  have a4 : rn.stmt (201 + 1) nm (I 2) (mem 0 2, 5 - 4, [nu], lc 0, 0) = some (false, mem 0 2, 0, [nu], lc 0, 0) := by
   rw [a3]
   exact blk_false (st_zero 200 s5 (mem 0 2) [nu] (lc 0) 0)
  unfold B
  rw [blk_true a1, blk_true a2, blk_false a4]
 ·
  intro h6
  have a4 : rn.stmt (201 + 1) nm (I 2) (mem 0 2, F - 4, [nu], lc 0, 0) = some (true, mem 0 3, F - 6, [nu], lc 0, 0) := by
   rw [a3, blk_true (st_set 200 s5 _ (mem 0 3) (F - 5) 3 [nu] (lc 0) ((ev5 0 0 2).trans (congrArg some ((w64).trans (by omega)))) (set5 0 0 2 3 _ [nu])), blk_nil, show F - 5 - 1 = F - 6 by omega]
  unfold B
  rw [blk_true a1, blk_true a2, blk_true a4, blk_nil]
theorem clone (m : List Cell) (h : m.length ≤ 60) : api_Cell_27.f m = some m := by
 unfold api_Cell_27.f
 rw [if_pos (by omega)]
theorem run_body (c F : Int) (b : Bool) (m : List Cell) (fu : Int) (tr : List ByteArray) (loc : List Cell) (h0 : 0 ≤ F) (h1 : F ≤ 500) (h : B c F = some (b, m, fu, tr, loc, 0)) :
  rn.f (201 + 1) L nm np [c] (mem 0 0) F = some (if b = true then 1 else 2, m, 0, tr, fu) := by
 have hb2 : rn.body (rn.stmt (201 + 1) nm) prc [c] (mem 0 0) F [] = some (0, b, m, fu, tr) := by
  unfold rn.body
  rw [loc0, prc6, if_pos (by decide)]
  show (B c F).bind _ = _
  rw [h, bs]
 unfold rn.f
 rw [show (([c] : List Int).length : Int) = 1 from rfl, find_ok]
 dsimp only
 rw [if_neg (by decide), if_neg (by omega), if_neg (by omega), clone _ (by show 2 ≤ 60; omega), bs, hb2, bs]
 cases b with
 | false => rfl
 | true => rfl
theorem wf_u8 {x : Int} (h : (Lit.int .u8 x).wf = true) : 0 ≤ x ∧ x ≤ 255 := by
 simp only [Lit.wf, IntKind.min, IntKind.max, IntKind.signed, IntKind.bits, Bool.and_eq_true, decide_eq_true_eq] at h
 simpa using h
theorem wf_i16 {x : Int} (h : (Lit.int .i16 x).wf = true) : -32768 ≤ x ∧ x ≤ 32767 := by
 simp only [Lit.wf, IntKind.min, IntKind.max, IntKind.signed, IntKind.bits, Bool.and_eq_true, decide_eq_true_eq] at h
 simpa using h
theorem RunBranches : aquiferlaw22_RunBranches.Pure := by
 intro c n hc hn
 obtain ⟨c0, c1⟩ := wf_i16 hc
 obtain ⟨n0, n1⟩ := wf_u8 hn
 have wc : wrap64 c = c := w64 (by omega) (by omega)
 have wn : wrap64 n = n := w64 (by omega) (by omega)
 have wf : wrap64 (5 + n) = 5 + n := w64 (by omega) (by omega)
 have wm : wrap64 (n - 1) = n - 1 := w64 (by omega) (by omega)
 obtain ⟨K1, h1⟩ := parse_ev
 obtain ⟨K2, h2⟩ := begin_ev
 obtain ⟨K3, h3⟩ := awaket
 replace h1 : ∀ k, K1 ≤ k → ra_Parse.f k TX = some mk := h1
 replace h2 : ∀ k, K2 ≤ k → rb_Begin.f k L = some (mem 0 0) := h2
 replace h3 : ∀ k, K3 ≤ k → aquiferlaw22_awake.f k = some true := h3
 have go : ∀ (r : Int × List Cell × Int × List ByteArray × Int), rn.f (201 + 1) L nm np [c] (mem 0 0) (5 + n) = some r → ∃ k, K1 ≤ k ∧ K2 ≤ k ∧ K3 ≤ k ∧ rn.f k L nm np [c] (mem 0 0) (5 + n) = some r := by
  intro r hr
  exact ⟨max (max K1 K2) (max K3 202), by omega, by omega, by omega, at_rounds (fun q => rn.mono _ _ _ _ _ _ q) (show 201 + 1 ≤ max (max K1 K2) (max K3 202) by omega) hr⟩
 by_cases hz : c = 0
 ·
  subst hz
  obtain ⟨l1, l2⟩ := run_lo (5 + n) (by omega) (by omega)
  by_cases hn0 : n = 0
  ·
   subst hn0
   obtain ⟨k, k1, k2, k3, hr⟩ := go _ (run_body 0 (5 + 0) false _ _ _ _ (by omega) (by omega) (l1 (by omega)))
   refine ⟨k, ?_⟩
   unfold aquiferlaw22_RunBranches.f
   rw [h1 k k1, bs, if_pos (by kernel_rfl), bs]
   change (rb_Begin.f k L).bind _ = _
   rw [h2 k k2, bs, wc, wf]
   change (rn.f k L nm np [0] (mem 0 0) (5 + 0)).bind _ = _
   rw [hr, bs, if_pos rfl, if_pos rfl, if_pos rfl, if_pos (by rfl), h3 k k3]
   rfl
  ·
   obtain ⟨k, k1, k2, k3, hr⟩ := go _ (run_body 0 (5 + n) true _ _ _ _ (by omega) (by omega) (l2 (by omega)))
   refine ⟨k, ?_⟩
   unfold aquiferlaw22_RunBranches.f
   rw [h1 k k1, bs, if_pos (by kernel_rfl), bs]
   change (rb_Begin.f k L).bind _ = _
   rw [h2 k k2, bs, wc, wn, wf, wm]
   change (rn.f k L nm np [0] (mem 0 0) (5 + n)).bind _ = _
   rw [hr, bs, if_pos rfl, if_neg hn0, if_pos rfl, if_pos rfl, if_pos (by show 5 + n - 6 = n - 1; omega)]
   iterate 8 rw [if_pos (by first | kernel_rfl | exact of_decide_eq_true (by kernel_rfl))]
   rw [h3 k k3]
   rfl
 ·
  obtain ⟨k, k1, k2, k3, hr⟩ := go _ (run_body c (5 + n) true _ _ _ _ (by omega) (by omega) (run_hi c (5 + n) hz (by omega) (by omega)))
  refine ⟨k, ?_⟩
  unfold aquiferlaw22_RunBranches.f
  rw [h1 k k1, bs, if_pos (by kernel_rfl), bs]
  change (rb_Begin.f k L).bind _ = _
  rw [h2 k k2, bs, wc, wn, wf]
  change (rn.f k L nm np [c] (mem 0 0) (5 + n)).bind _ = _
  rw [hr, bs, if_neg hz, if_pos rfl, if_pos rfl, if_pos (by show 5 + n - 5 = n; omega)]
  iterate 8 rw [if_pos (by first | kernel_rfl | exact of_decide_eq_true (by kernel_rfl))]
  rw [h3 k k3]
  rfl
end Go.Proofs.Ytcjnhnnfoadklaa.Pure
