/-
  Valid fixtures, bodies, joints. Conditions: none; no program in sight.
-/
import Derived.Test.YtplmagdbnbijlaaGreatMC
import Derived.Test.YtplmagdbnbijlaaGreatMA
import Derived.Test.YtplmagdbnbijlaaGreatME
set_option linter.all false
namespace Go.Carom
open Go Go.AL
def inR (x lo hi : Int) : Bool := decide (lo ≤ x) && decide (x ≤ hi)
theorem inR_iff (x lo hi : Int) : inR x lo hi = true ↔ lo ≤ x ∧ x ≤ hi := by simp [inR]
def fxR (f : Fx) : Bool := inR f.den 0 262144 && inR f.fri 0 131072 && inR f.res 0 65536 && (inR f.cat 0 65535 && inR f.msk 0 65535 && inR f.grp (-32) 32)
def fxval (f : Fx) : Int := if sval f.k f.r f.vs = 0 then (if fxR f then 0 else 6) else sval f.k f.r f.vs
def bdR (b : Bd) : Bool := inR b.id 1 1099511627776 && tvalid b.px b.py b.an && (inR b.vx (-16777216) 16777216 && inR b.vy (-16777216) 16777216 && inR b.av (-4194304) 4194304) &&
  (inR b.gx (-536870911) 536870911 && inR b.gy (-536870911) 536870911 && inR b.tq (-536870911) 536870911) && (inR b.ld 0 65536 && inR b.ad 0 65536) && inR b.gs (-262144) 262144 && inR b.idl 0 1048576
def bdMv (b : Bd) : Bool := !(decide (b.vx = 0) && decide (b.vy = 0)) || !decide (b.av = 0)
def bdFo (b : Bd) : Bool := !(decide (b.gx = 0) && decide (b.gy = 0)) || !decide (b.tq = 0)
def bdC (b : Bd) : Bool := !(decide (b.kd = 1) && (bdMv b || bdFo b)) && !(!decide (b.kd = 3) && (b.asl || b.bul)) && (!b.asl || !bdMv b)
def bdK (b : Bd) : Bool := decide (b.kd = 1) || decide (b.kd = 2) || decide (b.kd = 3)
def fxOk (l : List Fx) (i : Nat) : Bool := decide (fxval (l.getD i Fx.o) = 0)
def bval (b : Bd) : Int := if bdK b = false then 10 else if bdR b = false then 6 else if 4 < b.fs.length then 11 else if (List.range b.fs.length).all (fxOk b.fs) = false then 13 else if bdC b = false then 14 else 0
theorem bval_kind {b : Bd} (h : bdK b = false) : bval b = 10 := by unfold bval; rw [if_pos h]
theorem bval_range {b : Bd} (h : bdK b = true) (h2 : bdR b = false) : bval b = 6 := by unfold bval; rw [if_neg (by rw [h]; decide), if_pos h2]
theorem bval_count {b : Bd} (h : bdK b = true) (h2 : bdR b = true) (h3 : 4 < b.fs.length) : bval b = 11 := by unfold bval; rw [if_neg (by rw [h]; decide), if_neg (by rw [h2]; decide), if_pos h3]
theorem bval_fx {b : Bd} (h : bdK b = true) (h2 : bdR b = true) (h3 : ¬ 4 < b.fs.length) (h4 : (List.range b.fs.length).all (fxOk b.fs) = false) : bval b = 13 := by
  unfold bval; rw [if_neg (by rw [h]; decide), if_neg (by rw [h2]; decide), if_neg h3, if_pos h4]
theorem bval_last {b : Bd} (h : bdK b = true) (h2 : bdR b = true) (h3 : ¬ 4 < b.fs.length) (h4 : (List.range b.fs.length).all (fxOk b.fs) = true) : bval b = if bdC b then 0 else 14 := by
  unfold bval; rw [if_neg (by rw [h]; decide), if_neg (by rw [h2]; decide), if_neg h3, if_neg (by rw [h4]; decide)]
  cases bdC b <;> rfl
end Go.Carom
/-
  Valid joints. Conditions: none; no program in sight.
-/
namespace Go.Carom
open Go Go.AL
def jlow (kd : Int) : Int := if kd = 1 then 0 else if kd = 2 then -205888 else -268435456
def jhigh (kd : Int) : Int := if kd = 1 then 268435456 else if kd = 2 then 205888 else 268435456
def jreach (kd : Int) : Int := if kd = 5 then 268435456 else 1048576
def jImp (j : Jt) : Bool := inR j.i0 (-536870911) 536870911 && inR j.i1 (-536870911) 536870911 && inR j.i2 (-536870911) 536870911 && inR j.i3 (-536870911) 536870911
def jLim (j : Jt) : Bool := inR j.lo (jlow j.kd) (jhigh j.kd) && inR j.up (jlow j.kd) (jhigh j.kd) && decide (j.lo ≤ j.up)
def jP (j : Jt) : Bool := inR j.id 1 1099511627776 && (inR j.ax (-jreach j.kd) (jreach j.kd) && inR j.ay (-jreach j.kd) (jreach j.kd)) && (inR j.bx (-1048576) 1048576 && inR j.byy (-1048576) 1048576) && inR j.ra (-205888) 205887
def jM (j : Jt) : Bool := inR j.ms (-16777216) 16777216 && inR j.mf 0 536870911 && inR j.so 0 536870911 && inR j.br 0 536870911
def jR (j : Jt) : Bool := jImp j && (jP j && jLim j && jM j)
def jB (j : Jt) : Bool := if j.kd = 5 then decide (j.ba = 0) && inR j.bb 1 1099511627776 else inR j.ba 1 1099511627776 && inR j.bb 1 1099511627776 && !decide (j.ba = j.bb)
def jPl (j : Jt) : Bool := decide (j.ux = 0) && decide (j.uy = 0)
def jC (j : Jt) : Bool := if j.kd = 3 then !inR (vlen j.ux j.uy) 65520 65552 else if j.kd = 1 then !jPl j || j.em || !j.el else if j.kd = 4 ∨ j.kd = 5 then !jPl j || j.em || j.el else !jPl j
def jval (j : Jt) : Int := if j.kd < 1 ∨ 5 < j.kd then 10 else if jR j = false then 6 else if jB j = false then 14 else if jC j = true then 15 else 0
end Go.Carom
/-
  Valid worlds: keys, manifolds, bodies, joints, contacts. Conditions: none; no program in sight.
-/
namespace Go.Carom
open Go Go.AL
/-! ### keys -/
def k4ok (k : K4) : Bool := decide (k.a < k.b) && (inR k.fa 0 3 && inR k.fb 0 3)
def k4l (a b : K4) : Bool := decide (a.a < b.a ∨ a.a = b.a ∧ (a.fa < b.fa ∨ a.fa = b.fa ∧ (a.b < b.b ∨ a.b = b.b ∧ a.fb < b.fb)))
theorem k4l_iff (a b : K4) : k4l a b = true ↔ a.a < b.a ∨ a.a = b.a ∧ (a.fa < b.fa ∨ a.fa = b.fa ∧ (a.b < b.b ∨ a.b = b.b ∧ a.fb < b.fb)) := by simp [k4l]
theorem k4l_irr (a : K4) : k4l a a = false := by rw [← Bool.not_eq_true, k4l_iff]; omega
def or4 (a b c d : Int) : Int := orI a (orI b (orI c d))
def cmpK (a b : K4) : Int := or4 (cmpI a.a b.a) (cmpI a.fa b.fa) (cmpI a.b b.b) (cmpI a.fb b.fb)
theorem cmpI_s (a b : Int) : cmpI a b = -1 ∧ a < b ∨ cmpI a b = 1 ∧ b < a ∨ cmpI a b = 0 ∧ a = b := by
  unfold cmpI; split
  · exact .inl ⟨rfl, by assumption⟩
  · split
    · exact .inr (.inl ⟨rfl, by assumption⟩)
    · exact .inr (.inr ⟨rfl, by omega⟩)
theorem cmpK_lt (a b : K4) : decide (cmpK a b < 0) = k4l a b := by
  rw [Bool.eq_iff_iff, k4l_iff, decide_eq_true_eq]
  unfold cmpK or4 orI
  have h1 := cmpI_s a.a b.a
  have h2 := cmpI_s a.fa b.fa
  have h3 := cmpI_s a.b b.b
  have h4 := cmpI_s a.fb b.fb
  generalize cmpI a.a b.a = x1 at *
  generalize cmpI a.fa b.fa = x2 at *
  generalize cmpI a.b b.b = x3 at *
  generalize cmpI a.fb b.fb = x4 at *
  split
  · split
    · split
      · omega
      · omega
    · omega
  · omega
def kPrev (l : List K4) (i : Nat) : K4 := if i = 0 then K4.o else l.getD (i - 1) K4.o
def vkI (l : List K4) (i : Nat) : Bool := k4ok (l.getD i K4.o) && (decide (i = 0) || k4l (kPrev l i) (l.getD i K4.o))
def vkeys (l : List K4) : Bool := (List.range l.length).all (vkI l)
def k4e (a b : K4) : Bool := decide (a.a = b.a) && (decide (a.fa = b.fa) && (decide (a.b = b.b) && decide (a.fb = b.fb)))
theorem k4e_iff (a b : K4) : k4e a b = true ↔ a = b := by
  constructor
  · intro h; simp only [k4e, Bool.and_eq_true, decide_eq_true_eq] at h; exact K4.ext' h
  · rintro rfl; simp [k4e]
theorem vkI_p (l : List K4) (i : Nat) : (!k4ok (l.getD i K4.o) || (decide ((0 : Int) < (i : Int)) && (k4e (l.getD i K4.o) (kPrev l i) || !k4l (kPrev l i) (l.getD i K4.o)))) = !vkI l i := by
  unfold vkI
  generalize l.getD i K4.o = k
  generalize kPrev l i = p
  cases k4ok k with
  | false => rfl
  | true =>
    have hd : decide (i = 0) = !decide ((0 : Int) < (i : Int)) := by
      by_cases h : i = 0
      · subst h; rfl
      · rw [decide_eq_false h, decide_eq_true (by omega)]; rfl
    rw [hd]
    cases decide ((0 : Int) < (i : Int)) with
    | false => rfl
    | true =>
      cases he : k4e k p with
      | false => cases k4l p k <;> rfl
      | true => rw [(k4e_iff _ _).1 he, k4l_irr]; rfl
theorem vkeys_ok {l : List K4} (h : vkeys l = true) : ∀ k ∈ l, k4ok k = true := by
  intro k hk
  obtain ⟨i, hi, rfl⟩ := List.getElem_of_mem hk
  have := List.all_eq_true.1 h i (by simpa using hi)
  unfold vkI at this
  simp only [Bool.and_eq_true] at this
  have h1 := this.1
  rwa [List.getD_eq_getElem?_getD, List.getElem?_eq_getElem hi] at h1
/-! ### manifolds -/
def satI (x : Int) : Bool := inR x (-536870911) 536870911
def p6ok (p : P6) : Bool := decide (0 ≤ p.e) && (satI p.a && satI p.b && satI p.c && satI p.d && satI p.e && satI p.f)
def p6okI (l : List P6) (i : Nat) : Bool := p6ok (l.getD i P6.o)
def mnH (x y : Int) (l : List P6) : Bool := decide (1 ≤ l.length) && decide (l.length ≤ 2) && !(decide (l.length = 2) && decide ((l.getD 0 P6.o).d = (l.getD 1 P6.o).d)) && (satI x && satI y)
def mnOk (x y : Int) (l : List P6) : Bool := mnH x y l && (List.range l.length).all (p6okI l)
def ctOk (c : Ct) : Bool := mnOk c.x c.y c.ps
def ctOkI (l : List Ct) (i : Nat) : Bool := ctOk (l.getD i Ct.o)
/-! ### worlds -/
def fxEx (l : List Bd) (k : K4) : Bool := decide (hasFx l k.a k.fa) && decide (hasFx l k.b k.fb)
def fxExI (l : List Bd) (ks : List K4) (i : Nat) : Bool := fxEx l (ks.getD i K4.o)
def exB (l : List Bd) (id f : Int) : Bool := decide (hasFx l id f)
theorem exB_b (l : List Bd) (id f : Int) : exB l id f = (decide (0 ≤ fbK l id) && decide (0 ≤ f) && decide (f < ((l.getD (fbK l id).toNat Bd.o).fs.length : Int))) := by
  rw [Bool.eq_iff_iff]; unfold exB hasFx; simp [and_assoc]
def setOk (w : Wd) : Bool := inR w.ts 64 8192 && (inR w.gx (-16777216) 16777216 && inR w.gy (-16777216) 16777216) && inR w.it 1 32 && inR w.ss 0 1048576
def wcount (w : Wd) : Bool := decide (32 < w.bs.length) || decide (32 < w.js.length) || decide (8192 < w.cs.length) || decide (8192 < w.ov.length)
def wR (w : Wd) : Bool := inR w.nid 1 1099511627776 && inR w.fr 0 1099511627776
def bPrev (l : List Bd) (i : Nat) : Int := if i = 0 then 0 else (l.getD (i - 1) Bd.o).id
def jPrev (l : List Jt) (i : Nat) : Int := if i = 0 then 0 else (l.getD (i - 1) Jt.o).id
def wbI (w : Wd) (i : Nat) : Bool := decide (bval (w.bs.getD i Bd.o) = 0) && decide ((w.bs.getD i Bd.o).id < w.nid) && decide (bPrev w.bs i < (w.bs.getD i Bd.o).id)
def wB (w : Wd) : Bool := (List.range w.bs.length).all (wbI w)
def jEx (l : List Bd) (j : Jt) : Bool := decide (0 ≤ fbK l j.bb) && (decide (j.kd = 5) || decide (0 ≤ fbK l j.ba))
def wjI (w : Wd) (i : Nat) : Bool := decide (jval (w.js.getD i Jt.o) = 0) && decide ((w.js.getD i Jt.o).id < w.nid) && decide (jPrev w.js i < (w.js.getD i Jt.o).id) && jEx w.bs (w.js.getD i Jt.o) && decide (fbK w.bs (w.js.getD i Jt.o).id < 0)
def wJ (w : Wd) : Bool := (List.range w.js.length).all (wjI w)
def wKs (w : Wd) : List K4 := w.cs.map Ct.key
def wC (w : Wd) : Bool := (List.range w.cs.length).all (ctOkI w.cs) && (vkeys (wKs w) && vkeys w.ov && (List.range (wKs w ++ w.ov).length).all (fxExI w.bs (wKs w ++ w.ov)))
def wval (w : Wd) : Int := if setOk w = false then 17 else if wcount w = true then 11 else if wR w = false then 6 else if wB w = false then 14 else if wJ w = false then 15 else if wC w = false then 16 else 0
theorem wbI_p (w : Wd) (i : Nat) : (!decide (bval (w.bs.getD i Bd.o) = 0) || (decide (w.nid ≤ (w.bs.getD i Bd.o).id) || decide ((w.bs.getD i Bd.o).id ≤ bPrev w.bs i))) = !wbI w i := by
  unfold wbI
  generalize w.bs.getD i Bd.o = b
  have e1 : decide (w.nid ≤ b.id) = !decide (b.id < w.nid) := by rw [Bool.eq_iff_iff]; simp
  have e2 : decide (b.id ≤ bPrev w.bs i) = !decide (bPrev w.bs i < b.id) := by rw [Bool.eq_iff_iff]; simp
  rw [e1, e2]
  cases decide (bval b = 0) <;> cases decide (b.id < w.nid) <;> cases decide (bPrev w.bs i < b.id) <;> rfl
end Go.Carom
/-
  Valid worlds, second part: as the program and the reference read them. Conditions: none; no program in sight.
-/
namespace Go.Carom
open Go Go.AL
structure WH (w : Wd) : Prop where
  b : w.bs.length ≤ 100000
  j : w.js.length ≤ 100000
  c : w.cs.length ≤ 8192
  o : w.ov.length ≤ 8192
  f : ∀ x ∈ w.bs, x.fs.length ≤ 100000 ∧ ∀ f ∈ x.fs, f.vs.length ≤ 100000
  p : ∀ x ∈ w.cs, x.ps.length ≤ 100000
theorem wjI_p (w : Wd) (i : Nat) : ((((!decide (jval (w.js.getD i Jt.o) = 0) || decide (w.nid ≤ (w.js.getD i Jt.o).id)) || decide ((w.js.getD i Jt.o).id ≤ jPrev w.js i)) || !jEx w.bs (w.js.getD i Jt.o)) || decide (0 ≤ fbK w.bs (w.js.getD i Jt.o).id)) = !wjI w i := by
  unfold wjI
  generalize w.js.getD i Jt.o = j
  have e1 : decide (w.nid ≤ j.id) = !decide (j.id < w.nid) := by rw [Bool.eq_iff_iff]; simp
  have e2 : decide (j.id ≤ jPrev w.js i) = !decide (jPrev w.js i < j.id) := by rw [Bool.eq_iff_iff]; simp
  have e3 : decide (0 ≤ fbK w.bs j.id) = !decide (fbK w.bs j.id < 0) := by rw [Bool.eq_iff_iff]; simp
  rw [e1, e2, e3]
  cases decide (jval j = 0) <;> cases decide (j.id < w.nid) <;> cases decide (jPrev w.js i < j.id) <;> cases jEx w.bs j <;> cases decide (fbK w.bs j.id < 0) <;> rfl
theorem wcount_i (w : Wd) : (((decide ((32 : Int) < (w.bs.length : Int)) || decide ((32 : Int) < (w.js.length : Int))) || decide ((8192 : Int) < (w.cs.length : Int))) || decide ((8192 : Int) < (w.ov.length : Int))) = wcount w := by
  unfold wcount
  rw [Bool.eq_iff_iff]; simp only [Bool.or_eq_true, decide_eq_true_eq]; omega
theorem wC_ct {w : Wd} (h : (List.range w.cs.length).all (ctOkI w.cs) = false) : wC w = false := by unfold wC; rw [h]; rfl
theorem wC_ks {w : Wd} (h : (vkeys (wKs w) && vkeys w.ov) = false) : wC w = false := by unfold wC; rw [h, Bool.false_and, Bool.and_false]
theorem wC_fx {w : Wd} (h : (List.range w.cs.length).all (ctOkI w.cs) = true) (h' : (vkeys (wKs w) && vkeys w.ov) = true) : wC w = (List.range (wKs w ++ w.ov).length).all (fxExI w.bs (wKs w ++ w.ov)) := by unfold wC; rw [h, h', Bool.true_and, Bool.true_and]
end Go.Carom
/-
  Small worlds of chapters 38 and 41. Conditions: none; no program in sight.
-/
namespace Go.Carom
open Go Go.AL
def s38J (b : Bd) (k : Nat) : Bool := !decide (12 < (b.fs.getD k Fx.o).vs.length)
def s38I (l : List Bd) (i : Nat) : Bool := (List.range (min (l.getD i Bd.o).fs.length 6)).all (s38J (l.getD i Bd.o)) && !decide (6 < (l.getD i Bd.o).fs.length)
def s38C (l : List Ct) (i : Nat) : Bool := !decide (4 < (l.getD i Ct.o).ps.length)
def s38L (w : Wd) : Bool := decide (w.bs.length ≤ 8) && decide (w.js.length ≤ 8) && decide (w.cs.length ≤ 20) && decide (w.ov.length ≤ 20)
def sm38 (w : Wd) : Bool := (List.range (min w.bs.length 8)).all (s38I w.bs) && ((List.range (min w.cs.length 20)).all (s38C w.cs) && s38L w)
structure WS (w : Wd) : Prop where
  b : w.bs.length ≤ 8
  j : w.js.length ≤ 8
  c : w.cs.length ≤ 20
  o : w.ov.length ≤ 20
  f : ∀ x ∈ w.bs, x.fs.length ≤ 6 ∧ ∀ f ∈ x.fs, f.vs.length ≤ 12
  p : ∀ x ∈ w.cs, x.ps.length ≤ 4
theorem sm38_ws {w : Wd} (h : sm38 w = true) : WS w := by
  unfold sm38 s38L at h
  simp only [Bool.and_eq_true, decide_eq_true_eq] at h
  obtain ⟨h1, h2, ⟨⟨h3, h4⟩, h5⟩, h6⟩ := h
  refine ⟨h3, h4, h5, h6, fun x hx => ?_, fun x hx => ?_⟩
  · obtain ⟨i, hi, rfl⟩ := List.getElem_of_mem hx
    have := List.all_eq_true.1 h1 i (by rw [List.mem_range]; omega)
    unfold s38I at this
    rw [List.getD_eq_getElem?_getD, List.getElem?_eq_getElem hi] at this
    simp only [Option.getD_some, Bool.and_eq_true, Bool.not_eq_true', decide_eq_false_iff_not] at this
    refine ⟨by omega, fun f hf => ?_⟩
    obtain ⟨k, hk, rfl⟩ := List.getElem_of_mem hf
    have h7 := List.all_eq_true.1 this.1 k (by rw [List.mem_range]; omega)
    unfold s38J at h7
    rw [List.getD_eq_getElem?_getD, List.getElem?_eq_getElem hk] at h7
    simp only [Option.getD_some, Bool.not_eq_true', decide_eq_false_iff_not] at h7
    omega
  · obtain ⟨i, hi, rfl⟩ := List.getElem_of_mem hx
    have := List.all_eq_true.1 h2 i (by rw [List.mem_range]; omega)
    unfold s38C at this
    rw [List.getD_eq_getElem?_getD, List.getElem?_eq_getElem hi] at this
    simp only [Option.getD_some, Bool.not_eq_true', decide_eq_false_iff_not] at this
    omega
theorem WS.wh {w : Wd} (h : WS w) : WH w := ⟨by have := h.b; omega, by have := h.j; omega, by have := h.c; omega, by have := h.o; omega, fun x hx => ⟨by have := (h.f x hx).1; omega, fun f hf => by have := (h.f x hx).2 f hf; omega⟩, fun x hx => by have := h.p x hx; omega⟩
theorem s38L_i (w : Wd) : (((decide ((w.bs.length : Int) ≤ 8) && decide ((w.js.length : Int) ≤ 8)) && decide ((w.cs.length : Int) ≤ 20)) && decide ((w.ov.length : Int) ≤ 20)) = s38L w := by
  unfold s38L
  rw [Bool.eq_iff_iff]; simp only [Bool.and_eq_true, decide_eq_true_eq]; omega
end Go.Carom
