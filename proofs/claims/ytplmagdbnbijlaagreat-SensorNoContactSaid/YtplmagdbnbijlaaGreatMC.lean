/-
  The structures of package api as plain data, how they stand in memory, and what a reading says of them. Conditions: none; no program in sight.
-/
import Derived.Test.YtplmagdbnbijlaaGreatMA
import Derived.Test.YtplmagdbnbijlaaGreatMB
import Derived.Test.YtplmagdbnbijlaaGreatAl24
set_option linter.all false
namespace Go.Carom
open Go Go.AL
theorem getD_map {α : Type} (f : α → AV) (d : α) {l : List α} {i : Nat} (h : i < l.length) : (l.map f).getD i .und = f (l.getD i d) := by
  rw [List.getD_eq_getElem?_getD, List.getElem?_map, List.getD_eq_getElem?_getD, List.getElem?_eq_getElem h]; rfl
theorem map_len {α : Type} (f : α → AV) (n : Nat) (h : ∀ x, (f x).cells.length = n) (l : List α) : ∀ v ∈ l.map f, v.cells.length = n := by
  intro v hv; obtain ⟨x, _, rfl⟩ := List.mem_map.1 hv; exact h x
theorem map_one {α : Type} (f : α → AV) (h : ∀ x, ones (f x).cells = true) (l : List α) : ∀ v ∈ l.map f, ∀ c ∈ v.cells, c.one = true := by
  intro v hv; obtain ⟨x, _, rfl⟩ := List.mem_map.1 hv; exact List.all_eq_true.1 (h x)
def P6.o : P6 := ⟨0, 0, 0, 0, 0, 0⟩
theorem p6_getD {l : List P6} {i : Nat} (h : i < l.length) : (l.map P6.v).getD i .und = .agg [.i (l.getD i P6.o).a, .i (l.getD i P6.o).b, .i (l.getD i P6.o).c, .i (l.getD i P6.o).d, .i (l.getD i P6.o).e, .i (l.getD i P6.o).f] := getD_map P6.v P6.o h
def P6.Q (_ : P6) : Prop := True
theorem in_p6 {cs : List AV} (h : InL [.int .i64, .int .i64, .int .i64, .int .i64, .int .i64, .int .i64] cs) : ∃ x : P6, cs = [.i x.a, .i x.b, .i x.c, .i x.d, .i x.e, .i x.f] ∧ x.Q := by
  obtain ⟨c0, cs, rfl, h0, h⟩ := inL_cons.1 h
  obtain ⟨c1, cs, rfl, h1, h⟩ := inL_cons.1 h
  obtain ⟨c2, cs, rfl, h2, h⟩ := inL_cons.1 h
  obtain ⟨c3, cs, rfl, h3, h⟩ := inL_cons.1 h
  obtain ⟨c4, cs, rfl, h4, h⟩ := inL_cons.1 h
  obtain ⟨c5, cs, rfl, h5, h⟩ := inL_cons.1 h
  obtain rfl := inL_nil.1 h
  obtain ⟨x0, rfl, _⟩ := inC_int.1 h0
  obtain ⟨x1, rfl, _⟩ := inC_int.1 h1
  obtain ⟨x2, rfl, _⟩ := inC_int.1 h2
  obtain ⟨x3, rfl, _⟩ := inC_int.1 h3
  obtain ⟨x4, rfl, _⟩ := inC_int.1 h4
  obtain ⟨x5, rfl, _⟩ := inC_int.1 h5
  exact ⟨⟨x0, x1, x2, x3, x4, x5⟩, rfl, trivial⟩
theorem in_p6s {c : AV} (h : InC (.sl true [.int .i64, .int .i64, .int .i64, .int .i64, .int .i64, .int .i64]) c) : ∃ l : List P6, c = .sl (l.map P6.v) ∧ l.length ≤ maxLen ∧ ∀ x ∈ l, x.Q :=
  inC_sl (F := P6.v) (Q := P6.Q) (fun cs hcs => by obtain ⟨x, rfl, hq⟩ := in_p6 hcs; exact ⟨x, rfl, hq⟩) h
structure K4 where
  a : Int
  fa : Int
  b : Int
  fb : Int
theorem K4.ext' {x y : K4} (h : x.a = y.a ∧ x.fa = y.fa ∧ x.b = y.b ∧ x.fb = y.fb) : x = y := by cases x; cases y; simp_all
instance : DecidableEq K4 := fun x y => if h : x.a = y.a ∧ x.fa = y.fa ∧ x.b = y.b ∧ x.fb = y.fb then isTrue (K4.ext' h) else isFalse (by rintro rfl; exact h (by simp))
def K4.v (x : K4) : AV := .agg [.i x.a, .i x.fa, .i x.b, .i x.fb]
theorem lt_k4 (N : Nat) (x : K4) : Lt N x.v := lt_agg (lt_cons (lt_i _ _) (lt_cons (lt_i _ _) (lt_cons (lt_i _ _) (lt_cons (lt_i _ _) lt_nil))))
theorem lt_k4s (N : Nat) (l : List K4) : Lt N (.sl (l.map K4.v)) := .sl _ (lt_map fun x => lt_k4 N x)
def K4.o : K4 := ⟨0, 0, 0, 0⟩
theorem k4_getD {l : List K4} {i : Nat} (h : i < l.length) : (l.map K4.v).getD i .und = .agg [.i (l.getD i K4.o).a, .i (l.getD i K4.o).fa, .i (l.getD i K4.o).b, .i (l.getD i K4.o).fb] := getD_map K4.v K4.o h
theorem k4s_len (l : List K4) : ∀ v ∈ l.map K4.v, v.cells.length = 4 := map_len K4.v _ (fun _ => rfl) l
theorem k4s_one (l : List K4) : ∀ v ∈ l.map K4.v, ∀ c ∈ v.cells, c.one = true := map_one K4.v (fun _ => rfl) l
def K4.Q (_ : K4) : Prop := True
theorem in_k4 {cs : List AV} (h : InL [.int .i64, .int .i64, .int .i64, .int .i64] cs) : ∃ x : K4, cs = [.i x.a, .i x.fa, .i x.b, .i x.fb] ∧ x.Q := by
  obtain ⟨c0, cs, rfl, h0, h⟩ := inL_cons.1 h
  obtain ⟨c1, cs, rfl, h1, h⟩ := inL_cons.1 h
  obtain ⟨c2, cs, rfl, h2, h⟩ := inL_cons.1 h
  obtain ⟨c3, cs, rfl, h3, h⟩ := inL_cons.1 h
  obtain rfl := inL_nil.1 h
  obtain ⟨x0, rfl, _⟩ := inC_int.1 h0
  obtain ⟨x1, rfl, _⟩ := inC_int.1 h1
  obtain ⟨x2, rfl, _⟩ := inC_int.1 h2
  obtain ⟨x3, rfl, _⟩ := inC_int.1 h3
  exact ⟨⟨x0, x1, x2, x3⟩, rfl, trivial⟩
theorem in_k4s {c : AV} (h : InC (.sl true [.int .i64, .int .i64, .int .i64, .int .i64]) c) : ∃ l : List K4, c = .sl (l.map K4.v) ∧ l.length ≤ maxLen ∧ ∀ x ∈ l, x.Q :=
  inC_sl (F := K4.v) (Q := K4.Q) (fun cs hcs => by obtain ⟨x, rfl, hq⟩ := in_k4 hcs; exact ⟨x, rfl, hq⟩) h
structure Mn where
  x : Int
  y : Int
  ps : List P6
def Mn.v (x : Mn) : AV := .agg [.i x.x, .i x.y, .sl (x.ps.map P6.v)]
def Mn.o : Mn := ⟨0, 0, []⟩
def Mn.Q (x : Mn) : Prop := (x.ps.length ≤ maxLen ∧ ∀ y ∈ x.ps, y.Q)
structure Ct where
  a : Int
  fa : Int
  b : Int
  fb : Int
  x : Int
  y : Int
  ps : List P6
def Ct.v (x : Ct) : AV := .agg [.i x.a, .i x.fa, .i x.b, .i x.fb, .i x.x, .i x.y, .sl (x.ps.map P6.v)]
theorem lt_ct (N : Nat) (x : Ct) : Lt N x.v := lt_agg (lt_cons (lt_i _ _) (lt_cons (lt_i _ _) (lt_cons (lt_i _ _) (lt_cons (lt_i _ _) (lt_cons (lt_i _ _) (lt_cons (lt_i _ _) (lt_cons (lt_p6s _ _) lt_nil)))))))
theorem lt_cts (N : Nat) (l : List Ct) : Lt N (.sl (l.map Ct.v)) := .sl _ (lt_map fun x => lt_ct N x)
def Ct.o : Ct := ⟨0, 0, 0, 0, 0, 0, []⟩
theorem ct_getD {l : List Ct} {i : Nat} (h : i < l.length) : (l.map Ct.v).getD i .und = .agg [.i (l.getD i Ct.o).a, .i (l.getD i Ct.o).fa, .i (l.getD i Ct.o).b, .i (l.getD i Ct.o).fb, .i (l.getD i Ct.o).x, .i (l.getD i Ct.o).y, .sl ((l.getD i Ct.o).ps.map P6.v)] := getD_map Ct.v Ct.o h
theorem cts_len (l : List Ct) : ∀ v ∈ l.map Ct.v, v.cells.length = 7 := map_len Ct.v _ (fun _ => rfl) l
theorem cts_one (l : List Ct) : ∀ v ∈ l.map Ct.v, ∀ c ∈ v.cells, c.one = true := map_one Ct.v (fun _ => rfl) l
def Ct.Q (x : Ct) : Prop := (x.ps.length ≤ maxLen ∧ ∀ y ∈ x.ps, y.Q)
theorem in_ct {cs : List AV} (h : InL [.int .i64, .int .i64, .int .i64, .int .i64, .int .i64, .int .i64, .sl true [.int .i64, .int .i64, .int .i64, .int .i64, .int .i64, .int .i64]] cs) : ∃ x : Ct, cs = [.i x.a, .i x.fa, .i x.b, .i x.fb, .i x.x, .i x.y, .sl (x.ps.map P6.v)] ∧ x.Q := by
  obtain ⟨c0, cs, rfl, h0, h⟩ := inL_cons.1 h
  obtain ⟨c1, cs, rfl, h1, h⟩ := inL_cons.1 h
  obtain ⟨c2, cs, rfl, h2, h⟩ := inL_cons.1 h
  obtain ⟨c3, cs, rfl, h3, h⟩ := inL_cons.1 h
  obtain ⟨c4, cs, rfl, h4, h⟩ := inL_cons.1 h
  obtain ⟨c5, cs, rfl, h5, h⟩ := inL_cons.1 h
  obtain ⟨c6, cs, rfl, h6, h⟩ := inL_cons.1 h
  obtain rfl := inL_nil.1 h
  obtain ⟨x0, rfl, _⟩ := inC_int.1 h0
  obtain ⟨x1, rfl, _⟩ := inC_int.1 h1
  obtain ⟨x2, rfl, _⟩ := inC_int.1 h2
  obtain ⟨x3, rfl, _⟩ := inC_int.1 h3
  obtain ⟨x4, rfl, _⟩ := inC_int.1 h4
  obtain ⟨x5, rfl, _⟩ := inC_int.1 h5
  obtain ⟨x6, rfl, q6, p6⟩ := in_p6s h6
  exact ⟨⟨x0, x1, x2, x3, x4, x5, x6⟩, rfl, ⟨q6, p6⟩⟩
theorem in_cts {c : AV} (h : InC (.sl true [.int .i64, .int .i64, .int .i64, .int .i64, .int .i64, .int .i64, .sl true [.int .i64, .int .i64, .int .i64, .int .i64, .int .i64, .int .i64]]) c) : ∃ l : List Ct, c = .sl (l.map Ct.v) ∧ l.length ≤ maxLen ∧ ∀ x ∈ l, x.Q :=
  inC_sl (F := Ct.v) (Q := Ct.Q) (fun cs hcs => by obtain ⟨x, rfl, hq⟩ := in_ct hcs; exact ⟨x, rfl, hq⟩) h
structure Fx where
  k : Int
  r : Int
  vs : List (Int × Int)
  den : Int
  fri : Int
  res : Int
  sen : Bool
  cat : Int
  msk : Int
  grp : Int
def Fx.v (x : Fx) : AV := .agg [.i x.k, .i x.r, .sl (x.vs.map ev), .i x.den, .i x.fri, .i x.res, .b x.sen, .i x.cat, .i x.msk, .i x.grp]
theorem lt_fx (N : Nat) (x : Fx) : Lt N x.v := lt_agg (lt_cons (lt_i _ _) (lt_cons (lt_i _ _) (lt_cons (lt_vs _ _) (lt_cons (lt_i _ _) (lt_cons (lt_i _ _) (lt_cons (lt_i _ _) (lt_cons (lt_b _ _) (lt_cons (lt_i _ _) (lt_cons (lt_i _ _) (lt_cons (lt_i _ _) lt_nil))))))))))
theorem lt_fxs (N : Nat) (l : List Fx) : Lt N (.sl (l.map Fx.v)) := .sl _ (lt_map fun x => lt_fx N x)
def Fx.o : Fx := ⟨0, 0, [], 0, 0, 0, false, 0, 0, 0⟩
theorem fx_getD {l : List Fx} {i : Nat} (h : i < l.length) : (l.map Fx.v).getD i .und = .agg [.i (l.getD i Fx.o).k, .i (l.getD i Fx.o).r, .sl ((l.getD i Fx.o).vs.map ev), .i (l.getD i Fx.o).den, .i (l.getD i Fx.o).fri, .i (l.getD i Fx.o).res, .b (l.getD i Fx.o).sen, .i (l.getD i Fx.o).cat, .i (l.getD i Fx.o).msk, .i (l.getD i Fx.o).grp] := getD_map Fx.v Fx.o h
def Fx.Q (x : Fx) : Prop := x.vs.length ≤ maxLen
theorem in_fx {cs : List AV} (h : InL [.int .i64, .int .i64, .sl true [.int .i64, .int .i64], .int .i64, .int .i64, .int .i64, .bool, .int .i64, .int .i64, .int .i64] cs) : ∃ x : Fx, cs = [.i x.k, .i x.r, .sl (x.vs.map ev), .i x.den, .i x.fri, .i x.res, .b x.sen, .i x.cat, .i x.msk, .i x.grp] ∧ x.Q := by
  obtain ⟨c0, cs, rfl, h0, h⟩ := inL_cons.1 h
  obtain ⟨c1, cs, rfl, h1, h⟩ := inL_cons.1 h
  obtain ⟨c2, cs, rfl, h2, h⟩ := inL_cons.1 h
  obtain ⟨c3, cs, rfl, h3, h⟩ := inL_cons.1 h
  obtain ⟨c4, cs, rfl, h4, h⟩ := inL_cons.1 h
  obtain ⟨c5, cs, rfl, h5, h⟩ := inL_cons.1 h
  obtain ⟨c6, cs, rfl, h6, h⟩ := inL_cons.1 h
  obtain ⟨c7, cs, rfl, h7, h⟩ := inL_cons.1 h
  obtain ⟨c8, cs, rfl, h8, h⟩ := inL_cons.1 h
  obtain ⟨c9, cs, rfl, h9, h⟩ := inL_cons.1 h
  obtain rfl := inL_nil.1 h
  obtain ⟨x0, rfl, _⟩ := inC_int.1 h0
  obtain ⟨x1, rfl, _⟩ := inC_int.1 h1
  obtain ⟨x2, rfl, q2⟩ := in_vecs h2
  obtain ⟨x3, rfl, _⟩ := inC_int.1 h3
  obtain ⟨x4, rfl, _⟩ := inC_int.1 h4
  obtain ⟨x5, rfl, _⟩ := inC_int.1 h5
  obtain ⟨x6, rfl⟩ := inC_bool.1 h6
  obtain ⟨x7, rfl, _⟩ := inC_int.1 h7
  obtain ⟨x8, rfl, _⟩ := inC_int.1 h8
  obtain ⟨x9, rfl, _⟩ := inC_int.1 h9
  exact ⟨⟨x0, x1, x2, x3, x4, x5, x6, x7, x8, x9⟩, rfl, q2⟩
theorem in_fxs {c : AV} (h : InC (.sl true [.int .i64, .int .i64, .sl true [.int .i64, .int .i64], .int .i64, .int .i64, .int .i64, .bool, .int .i64, .int .i64, .int .i64]) c) : ∃ l : List Fx, c = .sl (l.map Fx.v) ∧ l.length ≤ maxLen ∧ ∀ x ∈ l, x.Q :=
  inC_sl (F := Fx.v) (Q := Fx.Q) (fun cs hcs => by obtain ⟨x, rfl, hq⟩ := in_fx hcs; exact ⟨x, rfl, hq⟩) h
structure Bd where
  id : Int
  kd : Int
  px : Int
  py : Int
  an : Int
  vx : Int
  vy : Int
  av : Int
  gx : Int
  gy : Int
  tq : Int
  ld : Int
  ad : Int
  gs : Int
  bul : Bool
  fr : Bool
  ns : Bool
  asl : Bool
  idl : Int
  fs : List Fx
def Bd.v (x : Bd) : AV := .agg [.i x.id, .i x.kd, .i x.px, .i x.py, .i x.an, .i x.vx, .i x.vy, .i x.av, .i x.gx, .i x.gy, .i x.tq, .i x.ld, .i x.ad, .i x.gs, .b x.bul, .b x.fr, .b x.ns, .b x.asl, .i x.idl, .sl (x.fs.map Fx.v)]
theorem lt_bd (N : Nat) (x : Bd) : Lt N x.v := lt_agg (lt_cons (lt_i _ _) (lt_cons (lt_i _ _) (lt_cons (lt_i _ _) (lt_cons (lt_i _ _) (lt_cons (lt_i _ _) (lt_cons (lt_i _ _) (lt_cons (lt_i _ _) (lt_cons (lt_i _ _) (lt_cons (lt_i _ _) (lt_cons (lt_i _ _) (lt_cons (lt_i _ _) (lt_cons (lt_i _ _) (lt_cons (lt_i _ _) (lt_cons (lt_i _ _) (lt_cons (lt_b _ _) (lt_cons (lt_b _ _) (lt_cons (lt_b _ _) (lt_cons (lt_b _ _) (lt_cons (lt_i _ _) (lt_cons (lt_fxs _ _) lt_nil))))))))))))))))))))
theorem lt_bds (N : Nat) (l : List Bd) : Lt N (.sl (l.map Bd.v)) := .sl _ (lt_map fun x => lt_bd N x)
def Bd.o : Bd := ⟨0, 0, 0, 0, 0, 0, 0, 0, 0, 0, 0, 0, 0, 0, false, false, false, false, 0, []⟩
theorem bd_getD {l : List Bd} {i : Nat} (h : i < l.length) : (l.map Bd.v).getD i .und = .agg [.i (l.getD i Bd.o).id, .i (l.getD i Bd.o).kd, .i (l.getD i Bd.o).px, .i (l.getD i Bd.o).py, .i (l.getD i Bd.o).an, .i (l.getD i Bd.o).vx, .i (l.getD i Bd.o).vy, .i (l.getD i Bd.o).av, .i (l.getD i Bd.o).gx, .i (l.getD i Bd.o).gy, .i (l.getD i Bd.o).tq, .i (l.getD i Bd.o).ld, .i (l.getD i Bd.o).ad, .i (l.getD i Bd.o).gs, .b (l.getD i Bd.o).bul, .b (l.getD i Bd.o).fr, .b (l.getD i Bd.o).ns, .b (l.getD i Bd.o).asl, .i (l.getD i Bd.o).idl, .sl ((l.getD i Bd.o).fs.map Fx.v)] := getD_map Bd.v Bd.o h
def Bd.Q (x : Bd) : Prop := (x.fs.length ≤ maxLen ∧ ∀ y ∈ x.fs, y.Q)
theorem in_bd {cs : List AV} (h : InL [.int .i64, .int .i64, .int .i64, .int .i64, .int .i64, .int .i64, .int .i64, .int .i64, .int .i64, .int .i64, .int .i64, .int .i64, .int .i64, .int .i64, .bool, .bool, .bool, .bool, .int .i64, .sl true [.int .i64, .int .i64, .sl true [.int .i64, .int .i64], .int .i64, .int .i64, .int .i64, .bool, .int .i64, .int .i64, .int .i64]] cs) : ∃ x : Bd, cs = [.i x.id, .i x.kd, .i x.px, .i x.py, .i x.an, .i x.vx, .i x.vy, .i x.av, .i x.gx, .i x.gy, .i x.tq, .i x.ld, .i x.ad, .i x.gs, .b x.bul, .b x.fr, .b x.ns, .b x.asl, .i x.idl, .sl (x.fs.map Fx.v)] ∧ x.Q := by
  obtain ⟨c0, cs, rfl, h0, h⟩ := inL_cons.1 h
  obtain ⟨c1, cs, rfl, h1, h⟩ := inL_cons.1 h
  obtain ⟨c2, cs, rfl, h2, h⟩ := inL_cons.1 h
  obtain ⟨c3, cs, rfl, h3, h⟩ := inL_cons.1 h
  obtain ⟨c4, cs, rfl, h4, h⟩ := inL_cons.1 h
  obtain ⟨c5, cs, rfl, h5, h⟩ := inL_cons.1 h
  obtain ⟨c6, cs, rfl, h6, h⟩ := inL_cons.1 h
  obtain ⟨c7, cs, rfl, h7, h⟩ := inL_cons.1 h
  obtain ⟨c8, cs, rfl, h8, h⟩ := inL_cons.1 h
  obtain ⟨c9, cs, rfl, h9, h⟩ := inL_cons.1 h
  obtain ⟨c10, cs, rfl, h10, h⟩ := inL_cons.1 h
  obtain ⟨c11, cs, rfl, h11, h⟩ := inL_cons.1 h
  obtain ⟨c12, cs, rfl, h12, h⟩ := inL_cons.1 h
  obtain ⟨c13, cs, rfl, h13, h⟩ := inL_cons.1 h
  obtain ⟨c14, cs, rfl, h14, h⟩ := inL_cons.1 h
  obtain ⟨c15, cs, rfl, h15, h⟩ := inL_cons.1 h
  obtain ⟨c16, cs, rfl, h16, h⟩ := inL_cons.1 h
  obtain ⟨c17, cs, rfl, h17, h⟩ := inL_cons.1 h
  obtain ⟨c18, cs, rfl, h18, h⟩ := inL_cons.1 h
  obtain ⟨c19, cs, rfl, h19, h⟩ := inL_cons.1 h
  obtain rfl := inL_nil.1 h
  obtain ⟨x0, rfl, _⟩ := inC_int.1 h0
  obtain ⟨x1, rfl, _⟩ := inC_int.1 h1
  obtain ⟨x2, rfl, _⟩ := inC_int.1 h2
  obtain ⟨x3, rfl, _⟩ := inC_int.1 h3
  obtain ⟨x4, rfl, _⟩ := inC_int.1 h4
  obtain ⟨x5, rfl, _⟩ := inC_int.1 h5
  obtain ⟨x6, rfl, _⟩ := inC_int.1 h6
  obtain ⟨x7, rfl, _⟩ := inC_int.1 h7
  obtain ⟨x8, rfl, _⟩ := inC_int.1 h8
  obtain ⟨x9, rfl, _⟩ := inC_int.1 h9
  obtain ⟨x10, rfl, _⟩ := inC_int.1 h10
  obtain ⟨x11, rfl, _⟩ := inC_int.1 h11
  obtain ⟨x12, rfl, _⟩ := inC_int.1 h12
  obtain ⟨x13, rfl, _⟩ := inC_int.1 h13
  obtain ⟨x14, rfl⟩ := inC_bool.1 h14
  obtain ⟨x15, rfl⟩ := inC_bool.1 h15
  obtain ⟨x16, rfl⟩ := inC_bool.1 h16
  obtain ⟨x17, rfl⟩ := inC_bool.1 h17
  obtain ⟨x18, rfl, _⟩ := inC_int.1 h18
  obtain ⟨x19, rfl, q19, p19⟩ := in_fxs h19
  exact ⟨⟨x0, x1, x2, x3, x4, x5, x6, x7, x8, x9, x10, x11, x12, x13, x14, x15, x16, x17, x18, x19⟩, rfl, ⟨q19, p19⟩⟩
theorem in_bds {c : AV} (h : InC (.sl true [.int .i64, .int .i64, .int .i64, .int .i64, .int .i64, .int .i64, .int .i64, .int .i64, .int .i64, .int .i64, .int .i64, .int .i64, .int .i64, .int .i64, .bool, .bool, .bool, .bool, .int .i64, .sl true [.int .i64, .int .i64, .sl true [.int .i64, .int .i64], .int .i64, .int .i64, .int .i64, .bool, .int .i64, .int .i64, .int .i64]]) c) : ∃ l : List Bd, c = .sl (l.map Bd.v) ∧ l.length ≤ maxLen ∧ ∀ x ∈ l, x.Q :=
  inC_sl (F := Bd.v) (Q := Bd.Q) (fun cs hcs => by obtain ⟨x, rfl, hq⟩ := in_bd hcs; exact ⟨x, rfl, hq⟩) h
structure Jt where
  id : Int
  kd : Int
  ba : Int
  bb : Int
  ax : Int
  ay : Int
  bx : Int
  byy : Int
  ux : Int
  uy : Int
  ra : Int
  el : Bool
  lo : Int
  up : Int
  em : Bool
  ms : Int
  mf : Int
  so : Int
  br : Int
  cc : Bool
  i0 : Int
  i1 : Int
  i2 : Int
  i3 : Int
theorem Jt.ext' {x y : Jt} (h : x.id = y.id ∧ x.kd = y.kd ∧ x.ba = y.ba ∧ x.bb = y.bb ∧ x.ax = y.ax ∧ x.ay = y.ay ∧ x.bx = y.bx ∧ x.byy = y.byy ∧ x.ux = y.ux ∧ x.uy = y.uy ∧ x.ra = y.ra ∧ x.el = y.el ∧ x.lo = y.lo ∧ x.up = y.up ∧ x.em = y.em ∧ x.ms = y.ms ∧ x.mf = y.mf ∧ x.so = y.so ∧ x.br = y.br ∧ x.cc = y.cc ∧ x.i0 = y.i0 ∧ x.i1 = y.i1 ∧ x.i2 = y.i2 ∧ x.i3 = y.i3) : x = y := by cases x; cases y; simp_all
instance : DecidableEq Jt := fun x y => if h : x.id = y.id ∧ x.kd = y.kd ∧ x.ba = y.ba ∧ x.bb = y.bb ∧ x.ax = y.ax ∧ x.ay = y.ay ∧ x.bx = y.bx ∧ x.byy = y.byy ∧ x.ux = y.ux ∧ x.uy = y.uy ∧ x.ra = y.ra ∧ x.el = y.el ∧ x.lo = y.lo ∧ x.up = y.up ∧ x.em = y.em ∧ x.ms = y.ms ∧ x.mf = y.mf ∧ x.so = y.so ∧ x.br = y.br ∧ x.cc = y.cc ∧ x.i0 = y.i0 ∧ x.i1 = y.i1 ∧ x.i2 = y.i2 ∧ x.i3 = y.i3 then isTrue (Jt.ext' h) else isFalse (by rintro rfl; exact h (by simp))
def Jt.v (x : Jt) : AV := .agg [.i x.id, .i x.kd, .i x.ba, .i x.bb, .i x.ax, .i x.ay, .i x.bx, .i x.byy, .i x.ux, .i x.uy, .i x.ra, .b x.el, .i x.lo, .i x.up, .b x.em, .i x.ms, .i x.mf, .i x.so, .i x.br, .b x.cc, .i x.i0, .i x.i1, .i x.i2, .i x.i3]
theorem lt_jt (N : Nat) (x : Jt) : Lt N x.v := lt_agg (lt_cons (lt_i _ _) (lt_cons (lt_i _ _) (lt_cons (lt_i _ _) (lt_cons (lt_i _ _) (lt_cons (lt_i _ _) (lt_cons (lt_i _ _) (lt_cons (lt_i _ _) (lt_cons (lt_i _ _) (lt_cons (lt_i _ _) (lt_cons (lt_i _ _) (lt_cons (lt_i _ _) (lt_cons (lt_b _ _) (lt_cons (lt_i _ _) (lt_cons (lt_i _ _) (lt_cons (lt_b _ _) (lt_cons (lt_i _ _) (lt_cons (lt_i _ _) (lt_cons (lt_i _ _) (lt_cons (lt_i _ _) (lt_cons (lt_b _ _) (lt_cons (lt_i _ _) (lt_cons (lt_i _ _) (lt_cons (lt_i _ _) (lt_cons (lt_i _ _) lt_nil))))))))))))))))))))))))
theorem lt_jts (N : Nat) (l : List Jt) : Lt N (.sl (l.map Jt.v)) := .sl _ (lt_map fun x => lt_jt N x)
def Jt.o : Jt := ⟨0, 0, 0, 0, 0, 0, 0, 0, 0, 0, 0, false, 0, 0, false, 0, 0, 0, 0, false, 0, 0, 0, 0⟩
theorem jt_getD {l : List Jt} {i : Nat} (h : i < l.length) : (l.map Jt.v).getD i .und = .agg [.i (l.getD i Jt.o).id, .i (l.getD i Jt.o).kd, .i (l.getD i Jt.o).ba, .i (l.getD i Jt.o).bb, .i (l.getD i Jt.o).ax, .i (l.getD i Jt.o).ay, .i (l.getD i Jt.o).bx, .i (l.getD i Jt.o).byy, .i (l.getD i Jt.o).ux, .i (l.getD i Jt.o).uy, .i (l.getD i Jt.o).ra, .b (l.getD i Jt.o).el, .i (l.getD i Jt.o).lo, .i (l.getD i Jt.o).up, .b (l.getD i Jt.o).em, .i (l.getD i Jt.o).ms, .i (l.getD i Jt.o).mf, .i (l.getD i Jt.o).so, .i (l.getD i Jt.o).br, .b (l.getD i Jt.o).cc, .i (l.getD i Jt.o).i0, .i (l.getD i Jt.o).i1, .i (l.getD i Jt.o).i2, .i (l.getD i Jt.o).i3] := getD_map Jt.v Jt.o h
def Jt.Q (_ : Jt) : Prop := True
theorem in_jt {cs : List AV} (h : InL [.int .i64, .int .i64, .int .i64, .int .i64, .int .i64, .int .i64, .int .i64, .int .i64, .int .i64, .int .i64, .int .i64, .bool, .int .i64, .int .i64, .bool, .int .i64, .int .i64, .int .i64, .int .i64, .bool, .int .i64, .int .i64, .int .i64, .int .i64] cs) : ∃ x : Jt, cs = [.i x.id, .i x.kd, .i x.ba, .i x.bb, .i x.ax, .i x.ay, .i x.bx, .i x.byy, .i x.ux, .i x.uy, .i x.ra, .b x.el, .i x.lo, .i x.up, .b x.em, .i x.ms, .i x.mf, .i x.so, .i x.br, .b x.cc, .i x.i0, .i x.i1, .i x.i2, .i x.i3] ∧ x.Q := by
  obtain ⟨c0, cs, rfl, h0, h⟩ := inL_cons.1 h
  obtain ⟨c1, cs, rfl, h1, h⟩ := inL_cons.1 h
  obtain ⟨c2, cs, rfl, h2, h⟩ := inL_cons.1 h
  obtain ⟨c3, cs, rfl, h3, h⟩ := inL_cons.1 h
  obtain ⟨c4, cs, rfl, h4, h⟩ := inL_cons.1 h
  obtain ⟨c5, cs, rfl, h5, h⟩ := inL_cons.1 h
  obtain ⟨c6, cs, rfl, h6, h⟩ := inL_cons.1 h
  obtain ⟨c7, cs, rfl, h7, h⟩ := inL_cons.1 h
  obtain ⟨c8, cs, rfl, h8, h⟩ := inL_cons.1 h
  obtain ⟨c9, cs, rfl, h9, h⟩ := inL_cons.1 h
  obtain ⟨c10, cs, rfl, h10, h⟩ := inL_cons.1 h
  obtain ⟨c11, cs, rfl, h11, h⟩ := inL_cons.1 h
  obtain ⟨c12, cs, rfl, h12, h⟩ := inL_cons.1 h
  obtain ⟨c13, cs, rfl, h13, h⟩ := inL_cons.1 h
  obtain ⟨c14, cs, rfl, h14, h⟩ := inL_cons.1 h
  obtain ⟨c15, cs, rfl, h15, h⟩ := inL_cons.1 h
  obtain ⟨c16, cs, rfl, h16, h⟩ := inL_cons.1 h
  obtain ⟨c17, cs, rfl, h17, h⟩ := inL_cons.1 h
  obtain ⟨c18, cs, rfl, h18, h⟩ := inL_cons.1 h
  obtain ⟨c19, cs, rfl, h19, h⟩ := inL_cons.1 h
  obtain ⟨c20, cs, rfl, h20, h⟩ := inL_cons.1 h
  obtain ⟨c21, cs, rfl, h21, h⟩ := inL_cons.1 h
  obtain ⟨c22, cs, rfl, h22, h⟩ := inL_cons.1 h
  obtain ⟨c23, cs, rfl, h23, h⟩ := inL_cons.1 h
  obtain rfl := inL_nil.1 h
  obtain ⟨x0, rfl, _⟩ := inC_int.1 h0
  obtain ⟨x1, rfl, _⟩ := inC_int.1 h1
  obtain ⟨x2, rfl, _⟩ := inC_int.1 h2
  obtain ⟨x3, rfl, _⟩ := inC_int.1 h3
  obtain ⟨x4, rfl, _⟩ := inC_int.1 h4
  obtain ⟨x5, rfl, _⟩ := inC_int.1 h5
  obtain ⟨x6, rfl, _⟩ := inC_int.1 h6
  obtain ⟨x7, rfl, _⟩ := inC_int.1 h7
  obtain ⟨x8, rfl, _⟩ := inC_int.1 h8
  obtain ⟨x9, rfl, _⟩ := inC_int.1 h9
  obtain ⟨x10, rfl, _⟩ := inC_int.1 h10
  obtain ⟨x11, rfl⟩ := inC_bool.1 h11
  obtain ⟨x12, rfl, _⟩ := inC_int.1 h12
  obtain ⟨x13, rfl, _⟩ := inC_int.1 h13
  obtain ⟨x14, rfl⟩ := inC_bool.1 h14
  obtain ⟨x15, rfl, _⟩ := inC_int.1 h15
  obtain ⟨x16, rfl, _⟩ := inC_int.1 h16
  obtain ⟨x17, rfl, _⟩ := inC_int.1 h17
  obtain ⟨x18, rfl, _⟩ := inC_int.1 h18
  obtain ⟨x19, rfl⟩ := inC_bool.1 h19
  obtain ⟨x20, rfl, _⟩ := inC_int.1 h20
  obtain ⟨x21, rfl, _⟩ := inC_int.1 h21
  obtain ⟨x22, rfl, _⟩ := inC_int.1 h22
  obtain ⟨x23, rfl, _⟩ := inC_int.1 h23
  exact ⟨⟨x0, x1, x2, x3, x4, x5, x6, x7, x8, x9, x10, x11, x12, x13, x14, x15, x16, x17, x18, x19, x20, x21, x22, x23⟩, rfl, trivial⟩
theorem in_jts {c : AV} (h : InC (.sl true [.int .i64, .int .i64, .int .i64, .int .i64, .int .i64, .int .i64, .int .i64, .int .i64, .int .i64, .int .i64, .int .i64, .bool, .int .i64, .int .i64, .bool, .int .i64, .int .i64, .int .i64, .int .i64, .bool, .int .i64, .int .i64, .int .i64, .int .i64]) c) : ∃ l : List Jt, c = .sl (l.map Jt.v) ∧ l.length ≤ maxLen ∧ ∀ x ∈ l, x.Q :=
  inC_sl (F := Jt.v) (Q := Jt.Q) (fun cs hcs => by obtain ⟨x, rfl, hq⟩ := in_jt hcs; exact ⟨x, rfl, hq⟩) h
structure Wd where
  ts : Int
  gx : Int
  gy : Int
  it : Int
  ss : Int
  bs : List Bd
  js : List Jt
  cs : List Ct
  ov : List K4
  nid : Int
  fr : Int
def Wd.v (x : Wd) : AV := .agg [.i x.ts, .i x.gx, .i x.gy, .i x.it, .i x.ss, .sl (x.bs.map Bd.v), .sl (x.js.map Jt.v), .sl (x.cs.map Ct.v), .sl (x.ov.map K4.v), .i x.nid, .i x.fr]
def Wd.o : Wd := ⟨0, 0, 0, 0, 0, [], [], [], [], 0, 0⟩
def Wd.Q (x : Wd) : Prop := (x.bs.length ≤ maxLen ∧ ∀ y ∈ x.bs, y.Q) ∧ (x.js.length ≤ maxLen ∧ ∀ y ∈ x.js, y.Q) ∧ (x.cs.length ≤ maxLen ∧ ∀ y ∈ x.cs, y.Q) ∧ (x.ov.length ≤ maxLen ∧ ∀ y ∈ x.ov, y.Q)
theorem in_wd {cs : List AV} (h : InL [.int .i64, .int .i64, .int .i64, .int .i64, .int .i64, .sl true [.int .i64, .int .i64, .int .i64, .int .i64, .int .i64, .int .i64, .int .i64, .int .i64, .int .i64, .int .i64, .int .i64, .int .i64, .int .i64, .int .i64, .bool, .bool, .bool, .bool, .int .i64, .sl true [.int .i64, .int .i64, .sl true [.int .i64, .int .i64], .int .i64, .int .i64, .int .i64, .bool, .int .i64, .int .i64, .int .i64]], .sl true [.int .i64, .int .i64, .int .i64, .int .i64, .int .i64, .int .i64, .int .i64, .int .i64, .int .i64, .int .i64, .int .i64, .bool, .int .i64, .int .i64, .bool, .int .i64, .int .i64, .int .i64, .int .i64, .bool, .int .i64, .int .i64, .int .i64, .int .i64], .sl true [.int .i64, .int .i64, .int .i64, .int .i64, .int .i64, .int .i64, .sl true [.int .i64, .int .i64, .int .i64, .int .i64, .int .i64, .int .i64]], .sl true [.int .i64, .int .i64, .int .i64, .int .i64], .int .i64, .int .i64] cs) : ∃ x : Wd, cs = [.i x.ts, .i x.gx, .i x.gy, .i x.it, .i x.ss, .sl (x.bs.map Bd.v), .sl (x.js.map Jt.v), .sl (x.cs.map Ct.v), .sl (x.ov.map K4.v), .i x.nid, .i x.fr] ∧ x.Q := by
  obtain ⟨c0, cs, rfl, h0, h⟩ := inL_cons.1 h
  obtain ⟨c1, cs, rfl, h1, h⟩ := inL_cons.1 h
  obtain ⟨c2, cs, rfl, h2, h⟩ := inL_cons.1 h
  obtain ⟨c3, cs, rfl, h3, h⟩ := inL_cons.1 h
  obtain ⟨c4, cs, rfl, h4, h⟩ := inL_cons.1 h
  obtain ⟨c5, cs, rfl, h5, h⟩ := inL_cons.1 h
  obtain ⟨c6, cs, rfl, h6, h⟩ := inL_cons.1 h
  obtain ⟨c7, cs, rfl, h7, h⟩ := inL_cons.1 h
  obtain ⟨c8, cs, rfl, h8, h⟩ := inL_cons.1 h
  obtain ⟨c9, cs, rfl, h9, h⟩ := inL_cons.1 h
  obtain ⟨c10, cs, rfl, h10, h⟩ := inL_cons.1 h
  obtain rfl := inL_nil.1 h
  obtain ⟨x0, rfl, _⟩ := inC_int.1 h0
  obtain ⟨x1, rfl, _⟩ := inC_int.1 h1
  obtain ⟨x2, rfl, _⟩ := inC_int.1 h2
  obtain ⟨x3, rfl, _⟩ := inC_int.1 h3
  obtain ⟨x4, rfl, _⟩ := inC_int.1 h4
  obtain ⟨x5, rfl, q5, p5⟩ := in_bds h5
  obtain ⟨x6, rfl, q6, p6⟩ := in_jts h6
  obtain ⟨x7, rfl, q7, p7⟩ := in_cts h7
  obtain ⟨x8, rfl, q8, p8⟩ := in_k4s h8
  obtain ⟨x9, rfl, _⟩ := inC_int.1 h9
  obtain ⟨x10, rfl, _⟩ := inC_int.1 h10
  exact ⟨⟨x0, x1, x2, x3, x4, x5, x6, x7, x8, x9, x10⟩, rfl, ⟨⟨q5, p5⟩, ⟨q6, p6⟩, ⟨q7, p7⟩, ⟨q8, p8⟩⟩⟩
structure Evt where
  kd : Int
  a : Int
  fa : Int
  b : Int
  fb : Int
theorem Evt.ext' {x y : Evt} (h : x.kd = y.kd ∧ x.a = y.a ∧ x.fa = y.fa ∧ x.b = y.b ∧ x.fb = y.fb) : x = y := by cases x; cases y; simp_all
instance : DecidableEq Evt := fun x y => if h : x.kd = y.kd ∧ x.a = y.a ∧ x.fa = y.fa ∧ x.b = y.b ∧ x.fb = y.fb then isTrue (Evt.ext' h) else isFalse (by rintro rfl; exact h (by simp))
def Evt.v (x : Evt) : AV := .agg [.i x.kd, .i x.a, .i x.fa, .i x.b, .i x.fb]
theorem lt_evt (N : Nat) (x : Evt) : Lt N x.v := lt_agg (lt_cons (lt_i _ _) (lt_cons (lt_i _ _) (lt_cons (lt_i _ _) (lt_cons (lt_i _ _) (lt_cons (lt_i _ _) lt_nil)))))
theorem lt_evts (N : Nat) (l : List Evt) : Lt N (.sl (l.map Evt.v)) := .sl _ (lt_map fun x => lt_evt N x)
def Evt.o : Evt := ⟨0, 0, 0, 0, 0⟩
theorem evt_getD {l : List Evt} {i : Nat} (h : i < l.length) : (l.map Evt.v).getD i .und = .agg [.i (l.getD i Evt.o).kd, .i (l.getD i Evt.o).a, .i (l.getD i Evt.o).fa, .i (l.getD i Evt.o).b, .i (l.getD i Evt.o).fb] := getD_map Evt.v Evt.o h
theorem evts_len (l : List Evt) : ∀ v ∈ l.map Evt.v, v.cells.length = 5 := map_len Evt.v _ (fun _ => rfl) l
theorem evts_one (l : List Evt) : ∀ v ∈ l.map Evt.v, ∀ c ∈ v.cells, c.one = true := map_one Evt.v (fun _ => rfl) l
def Evt.Q (_ : Evt) : Prop := True
structure Rh where
  b : Int
  f : Int
  t : Int
  px : Int
  py : Int
  nx : Int
  ny : Int
theorem Rh.ext' {x y : Rh} (h : x.b = y.b ∧ x.f = y.f ∧ x.t = y.t ∧ x.px = y.px ∧ x.py = y.py ∧ x.nx = y.nx ∧ x.ny = y.ny) : x = y := by cases x; cases y; simp_all
instance : DecidableEq Rh := fun x y => if h : x.b = y.b ∧ x.f = y.f ∧ x.t = y.t ∧ x.px = y.px ∧ x.py = y.py ∧ x.nx = y.nx ∧ x.ny = y.ny then isTrue (Rh.ext' h) else isFalse (by rintro rfl; exact h (by simp))
def Rh.v (x : Rh) : AV := .agg [.i x.b, .i x.f, .i x.t, .i x.px, .i x.py, .i x.nx, .i x.ny]
def Rh.o : Rh := ⟨0, 0, 0, 0, 0, 0, 0⟩
def Rh.Q (_ : Rh) : Prop := True
structure En where
  id : Int
  x : Int
  y : Int
  u : Int
  w : Int
theorem En.ext' {x y : En} (h : x.id = y.id ∧ x.x = y.x ∧ x.y = y.y ∧ x.u = y.u ∧ x.w = y.w) : x = y := by cases x; cases y; simp_all
instance : DecidableEq En := fun x y => if h : x.id = y.id ∧ x.x = y.x ∧ x.y = y.y ∧ x.u = y.u ∧ x.w = y.w then isTrue (En.ext' h) else isFalse (by rintro rfl; exact h (by simp))
def En.v (x : En) : AV := .agg [.i x.id, .i x.x, .i x.y, .i x.u, .i x.w]
theorem lt_en (N : Nat) (x : En) : Lt N x.v := lt_agg (lt_cons (lt_i _ _) (lt_cons (lt_i _ _) (lt_cons (lt_i _ _) (lt_cons (lt_i _ _) (lt_cons (lt_i _ _) lt_nil)))))
theorem lt_ens (N : Nat) (l : List En) : Lt N (.sl (l.map En.v)) := .sl _ (lt_map fun x => lt_en N x)
def En.o : En := ⟨0, 0, 0, 0, 0⟩
theorem en_getD {l : List En} {i : Nat} (h : i < l.length) : (l.map En.v).getD i .und = .agg [.i (l.getD i En.o).id, .i (l.getD i En.o).x, .i (l.getD i En.o).y, .i (l.getD i En.o).u, .i (l.getD i En.o).w] := getD_map En.v En.o h
theorem ens_len (l : List En) : ∀ v ∈ l.map En.v, v.cells.length = 5 := map_len En.v _ (fun _ => rfl) l
theorem ens_one (l : List En) : ∀ v ∈ l.map En.v, ∀ c ∈ v.cells, c.one = true := map_one En.v (fun _ => rfl) l
def En.Q (_ : En) : Prop := True
structure Px where
  b : Int
  f : Int
  x : Int
  y : Int
  u : Int
  w : Int
theorem Px.ext' {x y : Px} (h : x.b = y.b ∧ x.f = y.f ∧ x.x = y.x ∧ x.y = y.y ∧ x.u = y.u ∧ x.w = y.w) : x = y := by cases x; cases y; simp_all
instance : DecidableEq Px := fun x y => if h : x.b = y.b ∧ x.f = y.f ∧ x.x = y.x ∧ x.y = y.y ∧ x.u = y.u ∧ x.w = y.w then isTrue (Px.ext' h) else isFalse (by rintro rfl; exact h (by simp))
def Px.v (x : Px) : AV := .agg [.i x.b, .i x.f, .i x.x, .i x.y, .i x.u, .i x.w]
def Px.o : Px := ⟨0, 0, 0, 0, 0, 0⟩
def Px.Q (_ : Px) : Prop := True
structure P2 where
  a : Int
  b : Int
theorem P2.ext' {x y : P2} (h : x.a = y.a ∧ x.b = y.b) : x = y := by cases x; cases y; simp_all
instance : DecidableEq P2 := fun x y => if h : x.a = y.a ∧ x.b = y.b then isTrue (P2.ext' h) else isFalse (by rintro rfl; exact h (by simp))
def P2.v (x : P2) : AV := .agg [.i x.a, .i x.b]
theorem lt_p2 (N : Nat) (x : P2) : Lt N x.v := lt_agg (lt_cons (lt_i _ _) (lt_cons (lt_i _ _) lt_nil))
theorem lt_p2s (N : Nat) (l : List P2) : Lt N (.sl (l.map P2.v)) := .sl _ (lt_map fun x => lt_p2 N x)
def P2.o : P2 := ⟨0, 0⟩
theorem p2_getD {l : List P2} {i : Nat} (h : i < l.length) : (l.map P2.v).getD i .und = .agg [.i (l.getD i P2.o).a, .i (l.getD i P2.o).b] := getD_map P2.v P2.o h
theorem p2s_len (l : List P2) : ∀ v ∈ l.map P2.v, v.cells.length = 2 := map_len P2.v _ (fun _ => rfl) l
theorem p2s_one (l : List P2) : ∀ v ∈ l.map P2.v, ∀ c ∈ v.cells, c.one = true := map_one P2.v (fun _ => rfl) l
def P2.Q (_ : P2) : Prop := True
end Go.Carom
/-
  The plain law of chapter 27's lists: warm starting, finding, events. Conditions: none; no program in sight.
-/
namespace Go.Carom
open Go Go.AL
/-! ### lists, place by place -/
theorem all_range_getD {α : Type} (l : List α) (d : α) (f : α → Bool) : (List.range l.length).all (fun i => f (l.getD i d)) = l.all f := by
  rw [Bool.eq_iff_iff, List.all_eq_true, List.all_eq_true]
  constructor
  · intro h x hx
    obtain ⟨i, hi, rfl⟩ := List.getElem_of_mem hx
    have := h i (by simpa using hi)
    rwa [List.getD_eq_getElem?_getD, List.getElem?_eq_getElem hi] at this
  · intro h i hi
    have hi' : i < l.length := by simpa using hi
    exact h _ (getD_mem hi')
theorem take_succ_getD {α : Type} (l : List α) (d : α) {i : Nat} (h : i < l.length) : l.take (i + 1) = l.take i ++ [l.getD i d] := by
  rw [List.take_succ, List.getD_eq_getElem?_getD, List.getElem?_eq_getElem h]; rfl
theorem filter_take {α : Type} (l : List α) (d : α) (p : α → Bool) {i : Nat} (h : i < l.length) : (l.take (i + 1)).filter p = (l.take i).filter p ++ (if p (l.getD i d) = true then [l.getD i d] else []) := by
  rw [take_succ_getD l d h, List.filter_append]
  congr 1
  by_cases hp : p (l.getD i d) = true
  · rw [if_pos hp, List.filter_cons_of_pos hp]; rfl
  · rw [if_neg hp, List.filter_cons_of_neg hp]; rfl
theorem drop_getD {α : Type} (l : List α) (d : α) {i : Nat} (h : i < l.length) : l.drop i = l.getD i d :: l.drop (i + 1) := by
  rw [List.drop_eq_getElem_cons h, List.getD_eq_getElem?_getD, List.getElem?_eq_getElem h]; rfl
def mapTo {α : Type} (f : α → α) (l : List α) (i : Nat) : List α := (l.take i).map f ++ l.drop i
theorem mapTo_zero {α : Type} (f : α → α) (l : List α) : mapTo f l 0 = l := by simp [mapTo]
theorem mapTo_len {α : Type} (f : α → α) (l : List α) (i : Nat) : (mapTo f l i).length = l.length := by simp [mapTo]; omega
theorem mapTo_all {α : Type} (f : α → α) (l : List α) : mapTo f l l.length = l.map f := by simp [mapTo]
theorem mapTo_get {α : Type} (f : α → α) (l : List α) (d : α) {i : Nat} (h : i < l.length) : (mapTo f l i).getD i d = l.getD i d := by
  unfold mapTo
  rw [List.getD_eq_getElem?_getD, List.getElem?_append_right (by rw [List.length_map, List.length_take]; exact Nat.min_le_left _ _), drop_getD l d h]
  simp [Nat.min_eq_left (Nat.le_of_lt h)]
theorem mapTo_set {α : Type} (f : α → α) (l : List α) (d : α) {i : Nat} (h : i < l.length) : (mapTo f l i).set i (f (l.getD i d)) = mapTo f l (i + 1) := by
  unfold mapTo
  rw [take_succ_getD l d h, List.map_append, List.set_append_right _ _ (by rw [List.length_map, List.length_take]; exact Nat.min_le_left _ _), drop_getD l d h]
  simp [Nat.min_eq_left (Nat.le_of_lt h)]
theorem set_getD {l : List AV} {i : Nat} {v : AV} (h : i < l.length) : (l.set i v).getD i .und = v := by
  rw [List.getD_eq_getElem?_getD, List.getElem?_set_self h]; rfl
theorem map_set' {α : Type} (f : α → AV) (l : List α) (i : Nat) (x : α) : (l.map f).set i (f x) = (l.set i x).map f := by rw [List.map_set]
/-! ### manifolds -/
def P6.eqb (p q : P6) : Bool := decide (p.a = q.a) && (decide (p.b = q.b) && (decide (p.c = q.c) && (decide (p.d = q.d) && (decide (p.e = q.e) && decide (p.f = q.f)))))
theorem P6.eqb_refl (p : P6) : p.eqb p = true := by simp [P6.eqb]
/-! ### warm starting -/
def wsR (id : Int) : List P6 → Int × Int
  | [] => (0, 0)
  | o :: r => if o.d = id then (o.e, o.f) else wsR id r
def wsK (old : List P6) (id : Int) : Int := fidx old.length fun i => !decide ((old.getD i P6.o).d = id)
theorem wsR_drop {old : List P6} {id : Int} {i : Nat} (h : i < old.length) : wsR id (old.drop i) = if (old.getD i P6.o).d = id then ((old.getD i P6.o).e, (old.getD i P6.o).f) else wsR id (old.drop (i + 1)) := by
  rw [drop_getD old P6.o h, wsR]
theorem wsR_hit {old : List P6} {id : Int} {i : Nat} (hi : i < old.length) (h : ∀ j, j < i → ¬ (old.getD j P6.o).d = id) (hg : (old.getD i P6.o).d = id) : wsR id old = ((old.getD i P6.o).e, (old.getD i P6.o).f) := by
  have : ∀ k, k ≤ i → wsR id (old.drop k) = ((old.getD i P6.o).e, (old.getD i P6.o).f) := by
    intro k hk
    obtain ⟨m, rfl⟩ : ∃ m, i = k + m := ⟨i - k, by omega⟩
    clear hk
    induction m generalizing k with
    | zero => rw [wsR_drop (by omega), if_pos (by simpa using hg)]; rfl
    | succ m ih =>
      rw [wsR_drop (by omega), if_neg (h k (by omega))]
      have := ih (k + 1) (by rw [show k + 1 + m = k + (m + 1) by omega]; exact hi) (by rw [show k + 1 + m = k + (m + 1) by omega]; exact h) (by rw [show k + 1 + m = k + (m + 1) by omega]; exact hg)
      rw [this, show k + 1 + m = k + (m + 1) by omega]
  simpa using this 0 (Nat.zero_le _)
theorem wsR_none {old : List P6} {id : Int} (h : ∀ j, j < old.length → ¬ (old.getD j P6.o).d = id) : wsR id old = (0, 0) := by
  have : ∀ m k, k + m = old.length → wsR id (old.drop k) = (0, 0) := by
    intro m
    induction m with
    | zero => intro k hk; rw [List.drop_eq_nil_of_le (by omega)]; rfl
    | succ m ih => intro k hk; rw [wsR_drop (by omega), if_neg (h k (by omega))]; exact ih (k + 1) (by omega)
  simpa using this old.length 0 (by omega)
theorem wsK_R (old : List P6) (id : Int) : (0 ≤ wsK old id → wsK old id < old.length ∧ ((old.getD (wsK old id).toNat P6.o).e, (old.getD (wsK old id).toNat P6.o).f) = wsR id old) ∧ (¬ 0 ≤ wsK old id → wsR id old = (0, 0)) := by
  unfold wsK
  have key : ∀ m, m ≤ old.length → (∀ j, j < m → ¬ (old.getD j P6.o).d = id) ∨ ∃ i, i < m ∧ (old.getD i P6.o).d = id ∧ ∀ j, j < i → ¬ (old.getD j P6.o).d = id := by
    intro m
    induction m with
    | zero => exact fun _ => .inl fun j hj => by omega
    | succ m ih =>
      intro hm
      rcases ih (by omega) with h1 | ⟨i, h1, h2⟩
      · by_cases hg : (old.getD m P6.o).d = id
        · exact .inr ⟨m, by omega, hg, h1⟩
        · exact .inl fun j hj => by by_cases e : j = m; (subst e; exact hg); exact h1 j (by omega)
      · exact .inr ⟨i, by omega, h2⟩
  rcases key old.length (Nat.le_refl _) with h | ⟨i, hi, hg, h⟩
  · rw [fidx_none (i := old.length) (by omega) (Nat.le_refl _) (fun j hj => by rw [decide_eq_false (h j hj)]; rfl)]
    exact ⟨fun e => by omega, fun _ => wsR_none h⟩
  · rw [fidx_hit hi (fun j hj => by rw [decide_eq_false (h j hj)]; rfl) (by rw [decide_eq_true hg]; rfl)]
    refine ⟨fun _ => ⟨by omega, ?_⟩, fun e => by omega⟩
    rw [wsR_hit hi h hg]; simp
def wsP (old : List P6) (al : Bool) (p : P6) : P6 := if al = true then ⟨p.a, p.b, p.c, p.d, (wsR p.d old).1, (wsR p.d old).2⟩ else ⟨p.a, p.b, p.c, p.d, 0, 0⟩
def wsA (ox oy nx ny : Int) : Bool := decide (32768 ≤ vdot ox oy nx ny)
/-! ### contacts -/
def Ct.keq (c : Ct) (k : K4) : Bool := decide (c.a = k.a) && (decide (c.fa = k.fa) && (decide (c.b = k.b) && decide (c.fb = k.fb)))
def Ct.key (c : Ct) : K4 := ⟨c.a, c.fa, c.b, c.fb⟩
theorem keq_iff (c : Ct) (k : K4) : c.keq k = true ↔ c.key = k := by cases c; cases k; simp [Ct.keq, Ct.key]
def findK (l : List Ct) (k : K4) : Int := fidx l.length fun i => !(l.getD i Ct.o).keq k
/-! ### events -/
def Ct.evt (kd : Int) (c : Ct) : Evt := ⟨kd, c.a, c.fa, c.b, c.fb⟩
def fl {α : Type} (l : List α) (p : α → Bool) (i : Nat) : List α := (l.take i).filter p
theorem fl_in {α : Type} {l : List α} (d : α) {p : α → Bool} {i : Nat} (h : i < l.length) (hp : p (l.getD i d) = true) : fl l p (i + 1) = fl l p i ++ [l.getD i d] := by unfold fl; rw [filter_take l d p h, if_pos hp]
theorem fl_out {α : Type} {l : List α} (d : α) {p : α → Bool} {i : Nat} (h : i < l.length) (hp : p (l.getD i d) = false) : fl l p (i + 1) = fl l p i := by unfold fl; rw [filter_take l d p h, if_neg (by rw [hp]; decide), List.append_nil]
theorem fl_all {α : Type} (l : List α) (p : α → Bool) : fl l p l.length = l.filter p := by unfold fl; rw [List.take_length]
theorem fl_len {α : Type} (l : List α) (p : α → Bool) (i : Nat) : (fl l p i).length ≤ l.length := by
  unfold fl
  exact Nat.le_trans (List.length_filter_le _ _) (by rw [List.length_take]; exact Nat.min_le_right _ _)
def keyL (c : Ct) : List Value := [.int .i64 c.a, .int .i64 c.fa, .int .i64 c.b, .int .i64 c.fb]
def ixT (l : List Ct) : Nat → List (List Value × Value)
  | 0 => []
  | i + 1 => if mhas (keyL (l.getD i Ct.o)) (ixT l i) = true then ixT l i else mset (keyL (l.getD i Ct.o)) (.int .i64 i) (ixT l i)
abbrev K4S : List (Option IntKind) := [some .i64, some .i64, some .i64, some .i64]
theorem keyL_kinds (c : Ct) : (keyL c).map kindOf = K4S.map some := rfl
theorem ixT_keys (l : List Ct) (i : Nat) : MKeys K4S (ixT l i) := by
  induction i with
  | zero => exact MKeys.nil
  | succ i ih =>
    rw [ixT]
    split
    · exact ih
    · exact mset_keys (keyL_kinds _) ih
theorem veqs_refl : ∀ (k : List Value), (∀ v ∈ k, ∃ q, kindOf v = some q) → veqs k k = true
  | [], _ => rfl
  | v :: r, h => by
    rw [veqs, veqs_refl r fun x hx => h x (List.mem_cons_of_mem _ hx), Bool.and_true]
    obtain ⟨q, hq⟩ := h v (List.mem_cons_self ..)
    cases q with
    | some k => obtain ⟨n, rfl⟩ := kind_int hq; simp [veq]
    | none => obtain ⟨n, rfl⟩ := kind_bool hq; simp [veq]
theorem kinds_all {ks : List (Option IntKind)} {k : List Value} (h : k.map kindOf = ks.map some) : ∀ v ∈ k, ∃ q, kindOf v = some q := by
  intro v hv
  have : kindOf v ∈ k.map kindOf := List.mem_map_of_mem hv
  rw [h] at this
  obtain ⟨q, _, e⟩ := List.mem_map.1 this
  exact ⟨q, e.symm⟩
theorem mfind_some {ks : List (Option IntKind)} {k : List Value} (hk : k.map kindOf = ks.map some) : ∀ {ms : List (List Value × Value)} {i : Nat}, MKeys ks ms → ((mfind k ms i).isSome = true ↔ ∃ v, (k, v) ∈ ms)
  | [], _, _ => by simp [mfind]
  | (x, u) :: r, i, h => by
    unfold mfind
    by_cases hv : veqs k x = true
    · rw [if_pos hv]
      have := kinds_eq hk (h (x, u) (List.mem_cons_self ..)) hv
      subst this
      exact ⟨fun _ => ⟨u, List.mem_cons_self ..⟩, fun _ => rfl⟩
    · rw [if_neg hv, mfind_some hk h.tail]
      constructor
      · rintro ⟨v, hm⟩; exact ⟨v, List.mem_cons_of_mem _ hm⟩
      · rintro ⟨v, hm⟩
        rcases List.mem_cons.1 hm with e | hm
        · injection e with e1 e2
          subst e1
          exact absurd (veqs_refl k (kinds_all hk)) hv
        · exact ⟨v, hm⟩
theorem mset_mem {ks : List (Option IntKind)} {k k' : List Value} {v : Value} (hk : k.map kindOf = ks.map some) : ∀ {ms : List (List Value × Value)}, MKeys ks ms → ((∃ u, (k', u) ∈ mset k v ms) ↔ k' = k ∨ ∃ u, (k', u) ∈ ms)
  | [], _ => by simp [mset]
  | (x, u) :: r, h => by
    unfold mset
    by_cases hv : veqs k x = true
    · rw [if_pos hv]
      have := kinds_eq hk (h (x, u) (List.mem_cons_self ..)) hv
      subst this
      constructor
      · rintro ⟨w, hw⟩
        rcases List.mem_cons.1 hw with e | hw
        · injection e with e1 _; exact .inl e1
        · exact .inr ⟨w, List.mem_cons_of_mem _ hw⟩
      · rintro (rfl | ⟨w, hw⟩)
        · exact ⟨v, List.mem_cons_self ..⟩
        · rcases List.mem_cons.1 hw with e | hw
          · injection e with e1 _; subst e1; exact ⟨v, List.mem_cons_self ..⟩
          · exact ⟨w, List.mem_cons_of_mem _ hw⟩
    · rw [if_neg hv]
      have ih := mset_mem (k' := k') (v := v) hk h.tail
      constructor
      · rintro ⟨w, hw⟩
        rcases List.mem_cons.1 hw with e | hw
        · injection e with e1 e2; subst e1; exact .inr ⟨u, List.mem_cons_self ..⟩
        · rcases ih.1 ⟨w, hw⟩ with e | ⟨w, hw⟩
          · exact .inl e
          · exact .inr ⟨w, List.mem_cons_of_mem _ hw⟩
      · rintro (e | ⟨w, hw⟩)
        · obtain ⟨w, hw⟩ := ih.2 (.inl e); exact ⟨w, List.mem_cons_of_mem _ hw⟩
        · rcases List.mem_cons.1 hw with e | hw
          · injection e with e1 e2; subst e1; exact ⟨u, List.mem_cons_self ..⟩
          · obtain ⟨w, hw⟩ := ih.2 (.inr ⟨w, hw⟩); exact ⟨w, List.mem_cons_of_mem _ hw⟩
end Go.Carom
/-
  The plain law of chapter 27's events. Conditions: none; no program in sight.
-/
namespace Go.Carom
open Go Go.AL
theorem ixT_up {m : List Ct} {i : Nat} (h : mhas (keyL (m.getD i Ct.o)) (ixT m i) = false) : ixT m (i + 1) = mset (keyL (m.getD i Ct.o)) (.int .i64 i) (ixT m i) := if_neg (by rw [h]; decide)
theorem ixT_dn {m : List Ct} {i : Nat} (h : mhas (keyL (m.getD i Ct.o)) (ixT m i) = true) : ixT m (i + 1) = ixT m i := if_pos h
end Go.Carom
/-
  How lists and structures that are handed to a law look; what few contacts are. Conditions: none; no program in sight.
-/
namespace Go.Carom
open Go Go.AL
theorem in_one {s : Sh} {cs : List AV} (h : InL [s] cs) : ∃ c, ofC false cs = c ∧ InC s c := by
  obtain ⟨c0, cs', rfl, h0, h'⟩ := inL_cons.1 h
  exact ⟨c0, rfl, h0⟩
end Go.Carom
/-
  The plain law of ContactFixtures. Conditions: none; no program in sight.
-/
namespace Go.Carom
open Go Go.AL
theorem bd_none {l : List Bd} {i : Nat} (h : ¬ i < l.length) : (l.map Bd.v).getD i .und = .und := by
  rw [List.getD_eq_getElem?_getD, List.getElem?_eq_none (by rw [List.length_map]; omega)]; rfl
def fbK (l : List Bd) (id : Int) : Int := fidx l.length fun i => !decide ((l.getD i Bd.o).id = id)
theorem fidx_lt (n : Nat) (good : Nat → Bool) : -1 ≤ fidx n good ∧ fidx n good < n ∨ n = 0 ∧ fidx n good = -1 := by
  by_cases h : ∃ i, i < n ∧ good i = false
  · obtain ⟨i, hi, hg⟩ := h
    have key : ∀ k, (∃ i, i < k ∧ i < n ∧ good i = false) → ∃ i, i < n ∧ good i = false ∧ ∀ j, j < i → good j = true := by
      intro k
      induction k with
      | zero => rintro ⟨i, hi, _⟩; omega
      | succ k ih =>
        rintro ⟨i, hi, hn, hg⟩
        by_cases hx : ∃ i, i < k ∧ i < n ∧ good i = false
        · exact ih hx
        · have e : i = k := by
            by_cases e : i = k
            · exact e
            · exact absurd ⟨i, by omega, hn, hg⟩ hx
          subst e
          refine ⟨i, hn, hg, fun j hj => ?_⟩
          cases hgj : good j with
          | true => rfl
          | false => exact absurd ⟨j, hj, by omega, hgj⟩ hx
    obtain ⟨m, hm, hgm, hall⟩ := key n ⟨i, hi, hi, hg⟩
    rw [fidx_hit hm hall hgm]
    omega
  · have hall : ∀ j, j < n → good j = true := fun j hj => by
      cases hgj : good j with
      | true => rfl
      | false => exact absurd ⟨j, hj, hgj⟩ h
    rw [fidx_none (i := n) (by omega) (Nat.le_refl _) hall]
    omega
theorem fbK_lt (l : List Bd) (id : Int) : fbK l id < l.length := by
  rcases fidx_lt l.length (fun i => !decide ((l.getD i Bd.o).id = id)) with h | h
  · exact h.2
  · unfold fbK; omega
def hasFx (l : List Bd) (id f : Int) : Prop := 0 ≤ fbK l id ∧ 0 ≤ f ∧ f < ((l.getD (fbK l id).toNat Bd.o).fs.length : Int)
instance (l : List Bd) (id f : Int) : Decidable (hasFx l id f) := by unfold hasFx; infer_instance
end Go.Carom
/-
  The plain law of chapter 39: the first of some times. Conditions: none; no program in sight.
-/
namespace Go.Carom
open Go Go.AL
def TInv (a : Int) (s : Int × Bool) : Prop := (s.2 = true → a = s.1 ∧ 0 < s.1 ∧ s.1 < 65536) ∧ (s.2 = false → a = 65536 ∧ s.1 = 0)
theorem TInv.start : TInv 65536 (0, false) := ⟨(fun h => by cases h), fun _ => ⟨rfl, rfl⟩⟩
theorem TInv.fin {a : Int} {s : Int × Bool} (h : TInv a s) : (if a = 65536 then ((0 : Int), false) else (a, true)) = s := by
  obtain ⟨t, b⟩ := s
  obtain ⟨h1, h2⟩ := h
  cases b with
  | false =>
    obtain ⟨e1, e2⟩ := h2 rfl
    subst e1
    simp only at e2
    subst e2
    rfl
  | true =>
    obtain ⟨e1, e2, e3⟩ := h1 rfl
    simp only at e1 e2 e3
    subst e1
    rw [if_neg (by omega)]
end Go.Carom
/-
  What the functions of chapter 39 compute. Conditions: none; no program in sight.
-/
namespace Go.Carom
open Go Go.AL
def shd (a b : Fx) : Bool := if a.grp = b.grp ∧ a.grp ≠ 0 then decide (0 < a.grp) else !decide (bits .and .i64 a.cat b.msk = 0) && !decide (bits .and .i64 b.cat a.msk = 0)
def jcon (a b : Int) (j : Jt) : Bool := !j.cc && (decide (a = j.ba ∧ b = j.bb) || decide (a = j.bb ∧ b = j.ba))
def conn (js : List Jt) (a b : Int) : Bool := js.any (jcon a b)
def tI (was now o : Bd) (p q : Fx) : Int × Bool := toi p.k p.r p.vs was.px was.py was.an now.px now.py now.an q.k q.r q.vs o.px o.py o.an o.px o.py o.an
def Bd.at (b : Bd) (x y a : Int) : Bd := { b with px := x, py := y, an := a }
end Go.Carom
/-
  The plain law of fixtures that are no sensors, deleted in place. Conditions: none; no program in sight.
-/
namespace Go.Carom
open Go Go.AL
theorem fidx_cases (n : Nat) (good : Nat → Bool) : (fidx n good = -1 ∧ ∀ j, j < n → good j = true) ∨ ∃ i : Nat, i < n ∧ fidx n good = i ∧ good i = false ∧ ∀ j, j < i → good j = true := by
  by_cases h : ∃ i, i < n ∧ good i = false
  · obtain ⟨i, hi, hg⟩ := h
    have key : ∀ k, (∃ i, i < k ∧ i < n ∧ good i = false) → ∃ i, i < n ∧ good i = false ∧ ∀ j, j < i → good j = true := by
      intro k
      induction k with
      | zero => rintro ⟨i, hi, _⟩; omega
      | succ k ih =>
        rintro ⟨i, hi, hn, hg⟩
        by_cases hx : ∃ i, i < k ∧ i < n ∧ good i = false
        · exact ih hx
        · have e : i = k := by
            by_cases e : i = k
            · exact e
            · exact absurd ⟨i, by omega, hn, hg⟩ hx
          subst e
          refine ⟨i, hn, hg, fun j hj => ?_⟩
          cases hgj : good j with
          | true => rfl
          | false => exact absurd ⟨j, hj, by omega, hgj⟩ hx
    obtain ⟨m, hm, hgm, hall⟩ := key n ⟨i, hi, hi, hg⟩
    exact .inr ⟨m, hm, fidx_hit hm hall hgm, hgm, hall⟩
  · have hall : ∀ j, j < n → good j = true := fun j hj => by
      cases hgj : good j with
      | true => rfl
      | false => exact absurd ⟨j, hj, hgj⟩ h
    exact .inl ⟨fidx_none (i := n) (by omega) (Nat.le_refl _) hall, hall⟩
theorem jcon_eq (a b : Int) (x : Jt) : jcon a b x = (!x.cc && (decide (a = x.ba) && decide (b = x.bb) || decide (a = x.bb) && decide (b = x.ba))) := by simp [jcon, Bool.decide_and]
def jK (js : List Jt) (a b : Int) : Int := fidx js.length fun i => !jcon a b (js.getD i Jt.o)
theorem any_range {α : Type} (d : α) (p : α → Bool) (l : List α) : (List.range l.length).any (fun i => p (l.getD i d)) = l.any p := by
  rw [Bool.eq_iff_iff]
  simp only [List.any_eq_true, List.mem_range]
  constructor
  · rintro ⟨i, hi, h⟩; exact ⟨_, getD_mem hi, h⟩
  · rintro ⟨x, hx, h⟩
    obtain ⟨i, hi, rfl⟩ := List.mem_iff_getElem.1 hx
    exact ⟨i, hi, by rw [List.getD_eq_getElem?_getD, List.getElem?_eq_getElem hi]; exact h⟩
theorem jK_conn (js : List Jt) (a b : Int) : decide (0 ≤ jK js a b) = conn js a b := by
  rcases fidx_cases js.length (fun i => !jcon a b (js.getD i Jt.o)) with ⟨h1, h2⟩ | ⟨i, hi, h1, h2, _⟩
  · have : conn js a b = false := by
      unfold conn
      rw [← any_range Jt.o, Bool.eq_false_iff]
      intro h
      obtain ⟨j, hj, hp⟩ := List.any_eq_true.1 h
      have := h2 j (List.mem_range.1 hj)
      have hq : jcon a b (js.getD j Jt.o) = true := hp
      rw [hq] at this; cases this
    unfold jK; rw [h1, this]; rfl
  · have : conn js a b = true := by
      unfold conn
      rw [← any_range Jt.o]
      exact List.any_eq_true.2 ⟨i, List.mem_range.2 hi, by cases h : jcon a b (js.getD i Jt.o) with | true => rfl | false => rw [h] at h2; cases h2⟩
    unfold jK; rw [h1, this, decide_eq_true (by omega)]
end Go.Carom
/-
  The plain folds of chapter 39. Conditions: none; no program in sight.
-/
namespace Go.Carom
open Go Go.AL
def Bd.S (b : Bd) : Prop := b.fs.length ≤ 1000000 ∧ ∀ f ∈ b.fs, f.vs.length ≤ 1000000
def BsS (l : List Bd) : Prop := l.length ≤ 1000000 ∧ ∀ b ∈ l, b.S
theorem Bd.o_S : Bd.o.S := ⟨by decide, fun f hf => by cases hf⟩
theorem BsS.get {l : List Bd} (h : BsS l) (i : Nat) : (l.getD i Bd.o).S := by
  by_cases hi : i < l.length
  · exact h.2 _ (getD_mem hi)
  · rw [List.getD_eq_getElem?_getD, List.getElem?_eq_none (by omega)]; exact Bd.o_S
end Go.Carom
/-
  The plain lists of chapter 39. Conditions: none; no program in sight.
-/
namespace Go.Carom
open Go Go.AL
end Go.Carom
/-
  Small motions of chapter 39. Conditions: none; no program in sight.
-/
namespace Go.Carom
open Go Go.AL
end Go.Carom
/-
  The plain laws of chapter 39. Conditions: none; no program in sight.
-/
namespace Go.Carom
open Go Go.AL
section
variable {was now : List Bd} {js : List Jt}
end
end Go.Carom
/-
  The reference of chapter 39 finds what the program finds. Conditions: none; no program in sight.
-/
namespace Go.Carom
open Go Go.AL
def tx (was now o : Bd) (p q : Fx) : Bool × Int := ((tI was now o p q).2, (tI was now o p q).1)
end Go.Carom
