/-
  The structures of package api as plain data, how they stand in memory, and what a reading says of them. Conditions: none; no program in sight.
-/
import Derived.Test.YtlkngccfikeaiaaMA
import Derived.Test.YtlkngccfikeaiaaMB
import Derived.Test.YtlkngccfikeaiaaAl24
set_option linter.all false
namespace Go.Carom
open Go Go.AL
theorem getD_map {α : Type} (f : α → AV) (d : α) {l : List α} {i : Nat} (h : i < l.length) : (l.map f).getD i .und = f (l.getD i d) := by
  rw [List.getD_eq_getElem?_getD, List.getElem?_map, List.getD_eq_getElem?_getD, List.getElem?_eq_getElem h]; rfl
def P6.o : P6 := ⟨0, 0, 0, 0, 0, 0⟩
def P6.Q (_ : P6) : Prop := True
structure K4 where
  a : Int
  fa : Int
  b : Int
  fb : Int
theorem K4.ext' {x y : K4} (h : x.a = y.a ∧ x.fa = y.fa ∧ x.b = y.b ∧ x.fb = y.fb) : x = y := by cases x; cases y; simp_all
instance : DecidableEq K4 := fun x y => if h : x.a = y.a ∧ x.fa = y.fa ∧ x.b = y.b ∧ x.fb = y.fb then isTrue (K4.ext' h) else isFalse (by rintro rfl; exact h (by simp))
def K4.v (x : K4) : AV := .agg [.i x.a, .i x.fa, .i x.b, .i x.fb]
def K4.o : K4 := ⟨0, 0, 0, 0⟩
def K4.Q (_ : K4) : Prop := True
structure Mn where
  x : Int
  y : Int
  ps : List P6
def Mn.v (x : Mn) : AV := .agg [.i x.x, .i x.y, .sl (x.ps.map P6.v)]
def Mn.o : Mn := ⟨0, 0, []⟩
def Mn.Q (x : Mn) : Prop := (x.ps.length ≤ maxLen ∧ ∀ y ∈ x.ps, y.Q)
structure Ct where
  a : Int
  fa : Int
  b : Int
  fb : Int
  x : Int
  y : Int
  ps : List P6
def Ct.v (x : Ct) : AV := .agg [.i x.a, .i x.fa, .i x.b, .i x.fb, .i x.x, .i x.y, .sl (x.ps.map P6.v)]
def Ct.o : Ct := ⟨0, 0, 0, 0, 0, 0, []⟩
def Ct.Q (x : Ct) : Prop := (x.ps.length ≤ maxLen ∧ ∀ y ∈ x.ps, y.Q)
structure Fx where
  k : Int
  r : Int
  vs : List (Int × Int)
  den : Int
  fri : Int
  res : Int
  sen : Bool
  cat : Int
  msk : Int
  grp : Int
def Fx.v (x : Fx) : AV := .agg [.i x.k, .i x.r, .sl (x.vs.map ev), .i x.den, .i x.fri, .i x.res, .b x.sen, .i x.cat, .i x.msk, .i x.grp]
def Fx.o : Fx := ⟨0, 0, [], 0, 0, 0, false, 0, 0, 0⟩
def Fx.Q (x : Fx) : Prop := x.vs.length ≤ maxLen
structure Bd where
  id : Int
  kd : Int
  px : Int
  py : Int
  an : Int
  vx : Int
  vy : Int
  av : Int
  gx : Int
  gy : Int
  tq : Int
  ld : Int
  ad : Int
  gs : Int
  bul : Bool
  fr : Bool
  ns : Bool
  asl : Bool
  idl : Int
  fs : List Fx
def Bd.v (x : Bd) : AV := .agg [.i x.id, .i x.kd, .i x.px, .i x.py, .i x.an, .i x.vx, .i x.vy, .i x.av, .i x.gx, .i x.gy, .i x.tq, .i x.ld, .i x.ad, .i x.gs, .b x.bul, .b x.fr, .b x.ns, .b x.asl, .i x.idl, .sl (x.fs.map Fx.v)]
def Bd.o : Bd := ⟨0, 0, 0, 0, 0, 0, 0, 0, 0, 0, 0, 0, 0, 0, false, false, false, false, 0, []⟩
def Bd.Q (x : Bd) : Prop := (x.fs.length ≤ maxLen ∧ ∀ y ∈ x.fs, y.Q)
structure Jt where
  id : Int
  kd : Int
  ba : Int
  bb : Int
  ax : Int
  ay : Int
  bx : Int
  byy : Int
  ux : Int
  uy : Int
  ra : Int
  el : Bool
  lo : Int
  up : Int
  em : Bool
  ms : Int
  mf : Int
  so : Int
  br : Int
  cc : Bool
  i0 : Int
  i1 : Int
  i2 : Int
  i3 : Int
theorem Jt.ext' {x y : Jt} (h : x.id = y.id ∧ x.kd = y.kd ∧ x.ba = y.ba ∧ x.bb = y.bb ∧ x.ax = y.ax ∧ x.ay = y.ay ∧ x.bx = y.bx ∧ x.byy = y.byy ∧ x.ux = y.ux ∧ x.uy = y.uy ∧ x.ra = y.ra ∧ x.el = y.el ∧ x.lo = y.lo ∧ x.up = y.up ∧ x.em = y.em ∧ x.ms = y.ms ∧ x.mf = y.mf ∧ x.so = y.so ∧ x.br = y.br ∧ x.cc = y.cc ∧ x.i0 = y.i0 ∧ x.i1 = y.i1 ∧ x.i2 = y.i2 ∧ x.i3 = y.i3) : x = y := by cases x; cases y; simp_all
instance : DecidableEq Jt := fun x y => if h : x.id = y.id ∧ x.kd = y.kd ∧ x.ba = y.ba ∧ x.bb = y.bb ∧ x.ax = y.ax ∧ x.ay = y.ay ∧ x.bx = y.bx ∧ x.byy = y.byy ∧ x.ux = y.ux ∧ x.uy = y.uy ∧ x.ra = y.ra ∧ x.el = y.el ∧ x.lo = y.lo ∧ x.up = y.up ∧ x.em = y.em ∧ x.ms = y.ms ∧ x.mf = y.mf ∧ x.so = y.so ∧ x.br = y.br ∧ x.cc = y.cc ∧ x.i0 = y.i0 ∧ x.i1 = y.i1 ∧ x.i2 = y.i2 ∧ x.i3 = y.i3 then isTrue (Jt.ext' h) else isFalse (by rintro rfl; exact h (by simp))
def Jt.v (x : Jt) : AV := .agg [.i x.id, .i x.kd, .i x.ba, .i x.bb, .i x.ax, .i x.ay, .i x.bx, .i x.byy, .i x.ux, .i x.uy, .i x.ra, .b x.el, .i x.lo, .i x.up, .b x.em, .i x.ms, .i x.mf, .i x.so, .i x.br, .b x.cc, .i x.i0, .i x.i1, .i x.i2, .i x.i3]
def Jt.o : Jt := ⟨0, 0, 0, 0, 0, 0, 0, 0, 0, 0, 0, false, 0, 0, false, 0, 0, 0, 0, false, 0, 0, 0, 0⟩
def Jt.Q (_ : Jt) : Prop := True
structure Wd where
  ts : Int
  gx : Int
  gy : Int
  it : Int
  ss : Int
  bs : List Bd
  js : List Jt
  cs : List Ct
  ov : List K4
  nid : Int
  fr : Int
def Wd.v (x : Wd) : AV := .agg [.i x.ts, .i x.gx, .i x.gy, .i x.it, .i x.ss, .sl (x.bs.map Bd.v), .sl (x.js.map Jt.v), .sl (x.cs.map Ct.v), .sl (x.ov.map K4.v), .i x.nid, .i x.fr]
def Wd.o : Wd := ⟨0, 0, 0, 0, 0, [], [], [], [], 0, 0⟩
def Wd.Q (x : Wd) : Prop := (x.bs.length ≤ maxLen ∧ ∀ y ∈ x.bs, y.Q) ∧ (x.js.length ≤ maxLen ∧ ∀ y ∈ x.js, y.Q) ∧ (x.cs.length ≤ maxLen ∧ ∀ y ∈ x.cs, y.Q) ∧ (x.ov.length ≤ maxLen ∧ ∀ y ∈ x.ov, y.Q)
structure Evt where
  kd : Int
  a : Int
  fa : Int
  b : Int
  fb : Int
theorem Evt.ext' {x y : Evt} (h : x.kd = y.kd ∧ x.a = y.a ∧ x.fa = y.fa ∧ x.b = y.b ∧ x.fb = y.fb) : x = y := by cases x; cases y; simp_all
instance : DecidableEq Evt := fun x y => if h : x.kd = y.kd ∧ x.a = y.a ∧ x.fa = y.fa ∧ x.b = y.b ∧ x.fb = y.fb then isTrue (Evt.ext' h) else isFalse (by rintro rfl; exact h (by simp))
def Evt.v (x : Evt) : AV := .agg [.i x.kd, .i x.a, .i x.fa, .i x.b, .i x.fb]
def Evt.o : Evt := ⟨0, 0, 0, 0, 0⟩
def Evt.Q (_ : Evt) : Prop := True
structure Rh where
  b : Int
  f : Int
  t : Int
  px : Int
  py : Int
  nx : Int
  ny : Int
theorem Rh.ext' {x y : Rh} (h : x.b = y.b ∧ x.f = y.f ∧ x.t = y.t ∧ x.px = y.px ∧ x.py = y.py ∧ x.nx = y.nx ∧ x.ny = y.ny) : x = y := by cases x; cases y; simp_all
instance : DecidableEq Rh := fun x y => if h : x.b = y.b ∧ x.f = y.f ∧ x.t = y.t ∧ x.px = y.px ∧ x.py = y.py ∧ x.nx = y.nx ∧ x.ny = y.ny then isTrue (Rh.ext' h) else isFalse (by rintro rfl; exact h (by simp))
def Rh.v (x : Rh) : AV := .agg [.i x.b, .i x.f, .i x.t, .i x.px, .i x.py, .i x.nx, .i x.ny]
def Rh.o : Rh := ⟨0, 0, 0, 0, 0, 0, 0⟩
def Rh.Q (_ : Rh) : Prop := True
structure En where
  id : Int
  x : Int
  y : Int
  u : Int
  w : Int
theorem En.ext' {x y : En} (h : x.id = y.id ∧ x.x = y.x ∧ x.y = y.y ∧ x.u = y.u ∧ x.w = y.w) : x = y := by cases x; cases y; simp_all
instance : DecidableEq En := fun x y => if h : x.id = y.id ∧ x.x = y.x ∧ x.y = y.y ∧ x.u = y.u ∧ x.w = y.w then isTrue (En.ext' h) else isFalse (by rintro rfl; exact h (by simp))
def En.v (x : En) : AV := .agg [.i x.id, .i x.x, .i x.y, .i x.u, .i x.w]
theorem lt_en (N : Nat) (x : En) : Lt N x.v := lt_agg (lt_cons (lt_i _ _) (lt_cons (lt_i _ _) (lt_cons (lt_i _ _) (lt_cons (lt_i _ _) (lt_cons (lt_i _ _) lt_nil)))))
theorem lt_ens (N : Nat) (l : List En) : Lt N (.sl (l.map En.v)) := .sl _ (lt_map fun x => lt_en N x)
def En.o : En := ⟨0, 0, 0, 0, 0⟩
theorem en_getD {l : List En} {i : Nat} (h : i < l.length) : (l.map En.v).getD i .und = .agg [.i (l.getD i En.o).id, .i (l.getD i En.o).x, .i (l.getD i En.o).y, .i (l.getD i En.o).u, .i (l.getD i En.o).w] := getD_map En.v En.o h
def En.Q (_ : En) : Prop := True
theorem in_en {cs : List AV} (h : InL [.int .i64, .int .i64, .int .i64, .int .i64, .int .i64] cs) : ∃ x : En, cs = [.i x.id, .i x.x, .i x.y, .i x.u, .i x.w] ∧ x.Q := by
  obtain ⟨c0, cs, rfl, h0, h⟩ := inL_cons.1 h
  obtain ⟨c1, cs, rfl, h1, h⟩ := inL_cons.1 h
  obtain ⟨c2, cs, rfl, h2, h⟩ := inL_cons.1 h
  obtain ⟨c3, cs, rfl, h3, h⟩ := inL_cons.1 h
  obtain ⟨c4, cs, rfl, h4, h⟩ := inL_cons.1 h
  obtain rfl := inL_nil.1 h
  obtain ⟨x0, rfl, _⟩ := inC_int.1 h0
  obtain ⟨x1, rfl, _⟩ := inC_int.1 h1
  obtain ⟨x2, rfl, _⟩ := inC_int.1 h2
  obtain ⟨x3, rfl, _⟩ := inC_int.1 h3
  obtain ⟨x4, rfl, _⟩ := inC_int.1 h4
  exact ⟨⟨x0, x1, x2, x3, x4⟩, rfl, trivial⟩
theorem in_ens {c : AV} (h : InC (.sl true [.int .i64, .int .i64, .int .i64, .int .i64, .int .i64]) c) : ∃ l : List En, c = .sl (l.map En.v) ∧ l.length ≤ maxLen ∧ ∀ x ∈ l, x.Q :=
  inC_sl (F := En.v) (Q := En.Q) (fun cs hcs => by obtain ⟨x, rfl, hq⟩ := in_en hcs; exact ⟨x, rfl, hq⟩) h
structure Px where
  b : Int
  f : Int
  x : Int
  y : Int
  u : Int
  w : Int
theorem Px.ext' {x y : Px} (h : x.b = y.b ∧ x.f = y.f ∧ x.x = y.x ∧ x.y = y.y ∧ x.u = y.u ∧ x.w = y.w) : x = y := by cases x; cases y; simp_all
instance : DecidableEq Px := fun x y => if h : x.b = y.b ∧ x.f = y.f ∧ x.x = y.x ∧ x.y = y.y ∧ x.u = y.u ∧ x.w = y.w then isTrue (Px.ext' h) else isFalse (by rintro rfl; exact h (by simp))
def Px.v (x : Px) : AV := .agg [.i x.b, .i x.f, .i x.x, .i x.y, .i x.u, .i x.w]
def Px.o : Px := ⟨0, 0, 0, 0, 0, 0⟩
def Px.Q (_ : Px) : Prop := True
structure P2 where
  a : Int
  b : Int
theorem P2.ext' {x y : P2} (h : x.a = y.a ∧ x.b = y.b) : x = y := by cases x; cases y; simp_all
instance : DecidableEq P2 := fun x y => if h : x.a = y.a ∧ x.b = y.b then isTrue (P2.ext' h) else isFalse (by rintro rfl; exact h (by simp))
def P2.v (x : P2) : AV := .agg [.i x.a, .i x.b]
theorem lt_p2 (N : Nat) (x : P2) : Lt N x.v := lt_agg (lt_cons (lt_i _ _) (lt_cons (lt_i _ _) lt_nil))
theorem lt_p2s (N : Nat) (l : List P2) : Lt N (.sl (l.map P2.v)) := .sl _ (lt_map fun x => lt_p2 N x)
def P2.o : P2 := ⟨0, 0⟩
theorem p2_getD {l : List P2} {i : Nat} (h : i < l.length) : (l.map P2.v).getD i .und = .agg [.i (l.getD i P2.o).a, .i (l.getD i P2.o).b] := getD_map P2.v P2.o h
def P2.Q (_ : P2) : Prop := True
end Go.Carom
/-
  The plain law of chapter 27's lists: warm starting, finding, events. Conditions: none; no program in sight.
-/
namespace Go.Carom
open Go Go.AL
/-! ### lists, place by place -/
theorem take_succ_getD {α : Type} (l : List α) (d : α) {i : Nat} (h : i < l.length) : l.take (i + 1) = l.take i ++ [l.getD i d] := by
  rw [List.take_succ, List.getD_eq_getElem?_getD, List.getElem?_eq_getElem h]; rfl
/-! ### manifolds -/
/-! ### warm starting -/
/-! ### contacts -/
def Ct.key (c : Ct) : K4 := ⟨c.a, c.fa, c.b, c.fb⟩
/-! ### events -/
def fl {α : Type} (l : List α) (p : α → Bool) (i : Nat) : List α := (l.take i).filter p
end Go.Carom
