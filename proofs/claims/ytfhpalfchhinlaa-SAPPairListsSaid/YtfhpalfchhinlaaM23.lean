/-
  The structures of package api as plain data, how they stand in memory, and what a reading says of them. Conditions: none; no program in sight.
-/
import Derived.Test.YtfhpalfchhinlaaMA
import Derived.Test.YtfhpalfchhinlaaMB
set_option linter.all false
namespace Go.Carom
open Go Go.AL

theorem getD_map {α : Type} (f : α → AV) (d : α) {l : List α} {i : Nat} (h : i < l.length) : (l.map f).getD i .und = f (l.getD i d) := by
  rw [List.getD_eq_getElem?_getD, List.getElem?_map, List.getD_eq_getElem?_getD, List.getElem?_eq_getElem h]; rfl
theorem map_len {α : Type} (f : α → AV) (n : Nat) (h : ∀ x, (f x).cells.length = n) (l : List α) : ∀ v ∈ l.map f, v.cells.length = n := by
  intro v hv; obtain ⟨x, _, rfl⟩ := List.mem_map.1 hv; exact h x
theorem map_one {α : Type} (f : α → AV) (h : ∀ x, ones (f x).cells = true) (l : List α) : ∀ v ∈ l.map f, ∀ c ∈ v.cells, c.one = true := by
  intro v hv; obtain ⟨x, _, rfl⟩ := List.mem_map.1 hv; exact List.all_eq_true.1 (h x)
def P6.o : P6 := ⟨0, 0, 0, 0, 0, 0⟩
theorem p6_getD {l : List P6} {i : Nat} (h : i < l.length) : (l.map P6.v).getD i .und = .agg [.i (l.getD i P6.o).a, .i (l.getD i P6.o).b, .i (l.getD i P6.o).c, .i (l.getD i P6.o).d, .i (l.getD i P6.o).e, .i (l.getD i P6.o).f] := getD_map P6.v P6.o h
def P6.Q (_ : P6) : Prop := True
theorem in_p6 {cs : List AV} (h : InL [.int .i64, .int .i64, .int .i64, .int .i64, .int .i64, .int .i64] cs) : ∃ x : P6, cs = [.i x.a, .i x.b, .i x.c, .i x.d, .i x.e, .i x.f] ∧ x.Q := by
  obtain ⟨c0, cs, rfl, h0, h⟩ := inL_cons.1 h
  obtain ⟨c1, cs, rfl, h1, h⟩ := inL_cons.1 h
  obtain ⟨c2, cs, rfl, h2, h⟩ := inL_cons.1 h
  obtain ⟨c3, cs, rfl, h3, h⟩ := inL_cons.1 h
  obtain ⟨c4, cs, rfl, h4, h⟩ := inL_cons.1 h
  obtain ⟨c5, cs, rfl, h5, h⟩ := inL_cons.1 h
  obtain rfl := inL_nil.1 h
  obtain ⟨x0, rfl, _⟩ := inC_int.1 h0
  obtain ⟨x1, rfl, _⟩ := inC_int.1 h1
  obtain ⟨x2, rfl, _⟩ := inC_int.1 h2
  obtain ⟨x3, rfl, _⟩ := inC_int.1 h3
  obtain ⟨x4, rfl, _⟩ := inC_int.1 h4
  obtain ⟨x5, rfl, _⟩ := inC_int.1 h5
  exact ⟨⟨x0, x1, x2, x3, x4, x5⟩, rfl, trivial⟩
theorem in_p6s {c : AV} (h : InC (.sl true [.int .i64, .int .i64, .int .i64, .int .i64, .int .i64, .int .i64]) c) : ∃ l : List P6, c = .sl (l.map P6.v) ∧ l.length ≤ maxLen ∧ ∀ x ∈ l, x.Q :=
  inC_sl (F := P6.v) (Q := P6.Q) (fun cs hcs => by obtain ⟨x, rfl, hq⟩ := in_p6 hcs; exact ⟨x, rfl, hq⟩) h
structure K4 where
  a : Int
  fa : Int
  b : Int
  fb : Int
theorem K4.ext' {x y : K4} (h : x.a = y.a ∧ x.fa = y.fa ∧ x.b = y.b ∧ x.fb = y.fb) : x = y := by cases x; cases y; simp_all
instance : DecidableEq K4 := fun x y => if h : x.a = y.a ∧ x.fa = y.fa ∧ x.b = y.b ∧ x.fb = y.fb then isTrue (K4.ext' h) else isFalse (by rintro rfl; exact h (by simp))
def K4.v (x : K4) : AV := .agg [.i x.a, .i x.fa, .i x.b, .i x.fb]
theorem lt_k4 (N : Nat) (x : K4) : Lt N x.v := lt_agg (lt_cons (lt_i _ _) (lt_cons (lt_i _ _) (lt_cons (lt_i _ _) (lt_cons (lt_i _ _) lt_nil))))
theorem lt_k4s (N : Nat) (l : List K4) : Lt N (.sl (l.map K4.v)) := .sl _ (lt_map fun x => lt_k4 N x)
def K4.o : K4 := ⟨0, 0, 0, 0⟩
theorem k4_getD {l : List K4} {i : Nat} (h : i < l.length) : (l.map K4.v).getD i .und = .agg [.i (l.getD i K4.o).a, .i (l.getD i K4.o).fa, .i (l.getD i K4.o).b, .i (l.getD i K4.o).fb] := getD_map K4.v K4.o h
theorem k4s_len (l : List K4) : ∀ v ∈ l.map K4.v, v.cells.length = 4 := map_len K4.v _ (fun _ => rfl) l
theorem k4s_one (l : List K4) : ∀ v ∈ l.map K4.v, ∀ c ∈ v.cells, c.one = true := map_one K4.v (fun _ => rfl) l
theorem k4s_all (l : List K4) : (∀ v ∈ l.map K4.v, v.cells.length = 4 ∧ ∀ c ∈ v.cells, c.one = true) = True := eq_true fun v hv => ⟨k4s_len l v hv, k4s_one l v hv⟩
def K4.Q (_ : K4) : Prop := True
theorem in_k4 {cs : List AV} (h : InL [.int .i64, .int .i64, .int .i64, .int .i64] cs) : ∃ x : K4, cs = [.i x.a, .i x.fa, .i x.b, .i x.fb] ∧ x.Q := by
  obtain ⟨c0, cs, rfl, h0, h⟩ := inL_cons.1 h
  obtain ⟨c1, cs, rfl, h1, h⟩ := inL_cons.1 h
  obtain ⟨c2, cs, rfl, h2, h⟩ := inL_cons.1 h
  obtain ⟨c3, cs, rfl, h3, h⟩ := inL_cons.1 h
  obtain rfl := inL_nil.1 h
  obtain ⟨x0, rfl, _⟩ := inC_int.1 h0
  obtain ⟨x1, rfl, _⟩ := inC_int.1 h1
  obtain ⟨x2, rfl, _⟩ := inC_int.1 h2
  obtain ⟨x3, rfl, _⟩ := inC_int.1 h3
  exact ⟨⟨x0, x1, x2, x3⟩, rfl, trivial⟩
theorem in_k4s {c : AV} (h : InC (.sl true [.int .i64, .int .i64, .int .i64, .int .i64]) c) : ∃ l : List K4, c = .sl (l.map K4.v) ∧ l.length ≤ maxLen ∧ ∀ x ∈ l, x.Q :=
  inC_sl (F := K4.v) (Q := K4.Q) (fun cs hcs => by obtain ⟨x, rfl, hq⟩ := in_k4 hcs; exact ⟨x, rfl, hq⟩) h
structure Mn where
  x : Int
  y : Int
  ps : List P6
def Mn.v (x : Mn) : AV := .agg [.i x.x, .i x.y, .sl (x.ps.map P6.v)]
theorem lt_mn (N : Nat) (x : Mn) : Lt N x.v := lt_agg (lt_cons (lt_i _ _) (lt_cons (lt_i _ _) (lt_cons (lt_p6s _ _) lt_nil)))
theorem lt_mns (N : Nat) (l : List Mn) : Lt N (.sl (l.map Mn.v)) := .sl _ (lt_map fun x => lt_mn N x)
def Mn.o : Mn := ⟨0, 0, []⟩
theorem mn_getD {l : List Mn} {i : Nat} (h : i < l.length) : (l.map Mn.v).getD i .und = .agg [.i (l.getD i Mn.o).x, .i (l.getD i Mn.o).y, .sl ((l.getD i Mn.o).ps.map P6.v)] := getD_map Mn.v Mn.o h
theorem mns_len (l : List Mn) : ∀ v ∈ l.map Mn.v, v.cells.length = 3 := map_len Mn.v _ (fun _ => rfl) l
theorem mns_one (l : List Mn) : ∀ v ∈ l.map Mn.v, ∀ c ∈ v.cells, c.one = true := map_one Mn.v (fun _ => rfl) l
theorem mns_all (l : List Mn) : (∀ v ∈ l.map Mn.v, v.cells.length = 3 ∧ ∀ c ∈ v.cells, c.one = true) = True := eq_true fun v hv => ⟨mns_len l v hv, mns_one l v hv⟩
def Mn.Q (x : Mn) : Prop := (x.ps.length ≤ maxLen ∧ ∀ y ∈ x.ps, y.Q)
theorem in_mn {cs : List AV} (h : InL [.int .i64, .int .i64, .sl true [.int .i64, .int .i64, .int .i64, .int .i64, .int .i64, .int .i64]] cs) : ∃ x : Mn, cs = [.i x.x, .i x.y, .sl (x.ps.map P6.v)] ∧ x.Q := by
  obtain ⟨c0, cs, rfl, h0, h⟩ := inL_cons.1 h
  obtain ⟨c1, cs, rfl, h1, h⟩ := inL_cons.1 h
  obtain ⟨c2, cs, rfl, h2, h⟩ := inL_cons.1 h
  obtain rfl := inL_nil.1 h
  obtain ⟨x0, rfl, _⟩ := inC_int.1 h0
  obtain ⟨x1, rfl, _⟩ := inC_int.1 h1
  obtain ⟨x2, rfl, q2, p2⟩ := in_p6s h2
  exact ⟨⟨x0, x1, x2⟩, rfl, ⟨q2, p2⟩⟩
theorem in_mns {c : AV} (h : InC (.sl true [.int .i64, .int .i64, .sl true [.int .i64, .int .i64, .int .i64, .int .i64, .int .i64, .int .i64]]) c) : ∃ l : List Mn, c = .sl (l.map Mn.v) ∧ l.length ≤ maxLen ∧ ∀ x ∈ l, x.Q :=
  inC_sl (F := Mn.v) (Q := Mn.Q) (fun cs hcs => by obtain ⟨x, rfl, hq⟩ := in_mn hcs; exact ⟨x, rfl, hq⟩) h
structure Ct where
  a : Int
  fa : Int
  b : Int
  fb : Int
  x : Int
  y : Int
  ps : List P6
def Ct.v (x : Ct) : AV := .agg [.i x.a, .i x.fa, .i x.b, .i x.fb, .i x.x, .i x.y, .sl (x.ps.map P6.v)]
theorem lt_ct (N : Nat) (x : Ct) : Lt N x.v := lt_agg (lt_cons (lt_i _ _) (lt_cons (lt_i _ _) (lt_cons (lt_i _ _) (lt_cons (lt_i _ _) (lt_cons (lt_i _ _) (lt_cons (lt_i _ _) (lt_cons (lt_p6s _ _) lt_nil)))))))
theorem lt_cts (N : Nat) (l : List Ct) : Lt N (.sl (l.map Ct.v)) := .sl _ (lt_map fun x => lt_ct N x)
def Ct.o : Ct := ⟨0, 0, 0, 0, 0, 0, []⟩
theorem ct_getD {l : List Ct} {i : Nat} (h : i < l.length) : (l.map Ct.v).getD i .und = .agg [.i (l.getD i Ct.o).a, .i (l.getD i Ct.o).fa, .i (l.getD i Ct.o).b, .i (l.getD i Ct.o).fb, .i (l.getD i Ct.o).x, .i (l.getD i Ct.o).y, .sl ((l.getD i Ct.o).ps.map P6.v)] := getD_map Ct.v Ct.o h
theorem cts_len (l : List Ct) : ∀ v ∈ l.map Ct.v, v.cells.length = 7 := map_len Ct.v _ (fun _ => rfl) l
theorem cts_one (l : List Ct) : ∀ v ∈ l.map Ct.v, ∀ c ∈ v.cells, c.one = true := map_one Ct.v (fun _ => rfl) l
theorem cts_all (l : List Ct) : (∀ v ∈ l.map Ct.v, v.cells.length = 7 ∧ ∀ c ∈ v.cells, c.one = true) = True := eq_true fun v hv => ⟨cts_len l v hv, cts_one l v hv⟩
def Ct.Q (x : Ct) : Prop := (x.ps.length ≤ maxLen ∧ ∀ y ∈ x.ps, y.Q)
theorem in_ct {cs : List AV} (h : InL [.int .i64, .int .i64, .int .i64, .int .i64, .int .i64, .int .i64, .sl true [.int .i64, .int .i64, .int .i64, .int .i64, .int .i64, .int .i64]] cs) : ∃ x : Ct, cs = [.i x.a, .i x.fa, .i x.b, .i x.fb, .i x.x, .i x.y, .sl (x.ps.map P6.v)] ∧ x.Q := by
  obtain ⟨c0, cs, rfl, h0, h⟩ := inL_cons.1 h
  obtain ⟨c1, cs, rfl, h1, h⟩ := inL_cons.1 h
  obtain ⟨c2, cs, rfl, h2, h⟩ := inL_cons.1 h
  obtain ⟨c3, cs, rfl, h3, h⟩ := inL_cons.1 h
  obtain ⟨c4, cs, rfl, h4, h⟩ := inL_cons.1 h
  obtain ⟨c5, cs, rfl, h5, h⟩ := inL_cons.1 h
  obtain ⟨c6, cs, rfl, h6, h⟩ := inL_cons.1 h
  obtain rfl := inL_nil.1 h
  obtain ⟨x0, rfl, _⟩ := inC_int.1 h0
  obtain ⟨x1, rfl, _⟩ := inC_int.1 h1
  obtain ⟨x2, rfl, _⟩ := inC_int.1 h2
  obtain ⟨x3, rfl, _⟩ := inC_int.1 h3
  obtain ⟨x4, rfl, _⟩ := inC_int.1 h4
  obtain ⟨x5, rfl, _⟩ := inC_int.1 h5
  obtain ⟨x6, rfl, q6, p6⟩ := in_p6s h6
  exact ⟨⟨x0, x1, x2, x3, x4, x5, x6⟩, rfl, ⟨q6, p6⟩⟩
theorem in_cts {c : AV} (h : InC (.sl true [.int .i64, .int .i64, .int .i64, .int .i64, .int .i64, .int .i64, .sl true [.int .i64, .int .i64, .int .i64, .int .i64, .int .i64, .int .i64]]) c) : ∃ l : List Ct, c = .sl (l.map Ct.v) ∧ l.length ≤ maxLen ∧ ∀ x ∈ l, x.Q :=
  inC_sl (F := Ct.v) (Q := Ct.Q) (fun cs hcs => by obtain ⟨x, rfl, hq⟩ := in_ct hcs; exact ⟨x, rfl, hq⟩) h
structure Fx where
  k : Int
  r : Int
  vs : List (Int × Int)
  den : Int
  fri : Int
  res : Int
  sen : Bool
  cat : Int
  msk : Int
  grp : Int
def Fx.v (x : Fx) : AV := .agg [.i x.k, .i x.r, .sl (x.vs.map ev), .i x.den, .i x.fri, .i x.res, .b x.sen, .i x.cat, .i x.msk, .i x.grp]
theorem lt_fx (N : Nat) (x : Fx) : Lt N x.v := lt_agg (lt_cons (lt_i _ _) (lt_cons (lt_i _ _) (lt_cons (lt_vs _ _) (lt_cons (lt_i _ _) (lt_cons (lt_i _ _) (lt_cons (lt_i _ _) (lt_cons (lt_b _ _) (lt_cons (lt_i _ _) (lt_cons (lt_i _ _) (lt_cons (lt_i _ _) lt_nil))))))))))
theorem lt_fxs (N : Nat) (l : List Fx) : Lt N (.sl (l.map Fx.v)) := .sl _ (lt_map fun x => lt_fx N x)
def Fx.o : Fx := ⟨0, 0, [], 0, 0, 0, false, 0, 0, 0⟩
theorem fx_getD {l : List Fx} {i : Nat} (h : i < l.length) : (l.map Fx.v).getD i .und = .agg [.i (l.getD i Fx.o).k, .i (l.getD i Fx.o).r, .sl ((l.getD i Fx.o).vs.map ev), .i (l.getD i Fx.o).den, .i (l.getD i Fx.o).fri, .i (l.getD i Fx.o).res, .b (l.getD i Fx.o).sen, .i (l.getD i Fx.o).cat, .i (l.getD i Fx.o).msk, .i (l.getD i Fx.o).grp] := getD_map Fx.v Fx.o h
theorem fxs_len (l : List Fx) : ∀ v ∈ l.map Fx.v, v.cells.length = 10 := map_len Fx.v _ (fun _ => rfl) l
theorem fxs_one (l : List Fx) : ∀ v ∈ l.map Fx.v, ∀ c ∈ v.cells, c.one = true := map_one Fx.v (fun _ => rfl) l
theorem fxs_all (l : List Fx) : (∀ v ∈ l.map Fx.v, v.cells.length = 10 ∧ ∀ c ∈ v.cells, c.one = true) = True := eq_true fun v hv => ⟨fxs_len l v hv, fxs_one l v hv⟩
def Fx.Q (x : Fx) : Prop := x.vs.length ≤ maxLen
theorem in_fx {cs : List AV} (h : InL [.int .i64, .int .i64, .sl true [.int .i64, .int .i64], .int .i64, .int .i64, .int .i64, .bool, .int .i64, .int .i64, .int .i64] cs) : ∃ x : Fx, cs = [.i x.k, .i x.r, .sl (x.vs.map ev), .i x.den, .i x.fri, .i x.res, .b x.sen, .i x.cat, .i x.msk, .i x.grp] ∧ x.Q := by
  obtain ⟨c0, cs, rfl, h0, h⟩ := inL_cons.1 h
  obtain ⟨c1, cs, rfl, h1, h⟩ := inL_cons.1 h
  obtain ⟨c2, cs, rfl, h2, h⟩ := inL_cons.1 h
  obtain ⟨c3, cs, rfl, h3, h⟩ := inL_cons.1 h
  obtain ⟨c4, cs, rfl, h4, h⟩ := inL_cons.1 h
  obtain ⟨c5, cs, rfl, h5, h⟩ := inL_cons.1 h
  obtain ⟨c6, cs, rfl, h6, h⟩ := inL_cons.1 h
  obtain ⟨c7, cs, rfl, h7, h⟩ := inL_cons.1 h
  obtain ⟨c8, cs, rfl, h8, h⟩ := inL_cons.1 h
  obtain ⟨c9, cs, rfl, h9, h⟩ := inL_cons.1 h
  obtain rfl := inL_nil.1 h
  obtain ⟨x0, rfl, _⟩ := inC_int.1 h0
  obtain ⟨x1, rfl, _⟩ := inC_int.1 h1
  obtain ⟨x2, rfl, q2⟩ := in_vecs h2
  obtain ⟨x3, rfl, _⟩ := inC_int.1 h3
  obtain ⟨x4, rfl, _⟩ := inC_int.1 h4
  obtain ⟨x5, rfl, _⟩ := inC_int.1 h5
  obtain ⟨x6, rfl⟩ := inC_bool.1 h6
  obtain ⟨x7, rfl, _⟩ := inC_int.1 h7
  obtain ⟨x8, rfl, _⟩ := inC_int.1 h8
  obtain ⟨x9, rfl, _⟩ := inC_int.1 h9
  exact ⟨⟨x0, x1, x2, x3, x4, x5, x6, x7, x8, x9⟩, rfl, q2⟩
theorem in_fxs {c : AV} (h : InC (.sl true [.int .i64, .int .i64, .sl true [.int .i64, .int .i64], .int .i64, .int .i64, .int .i64, .bool, .int .i64, .int .i64, .int .i64]) c) : ∃ l : List Fx, c = .sl (l.map Fx.v) ∧ l.length ≤ maxLen ∧ ∀ x ∈ l, x.Q :=
  inC_sl (F := Fx.v) (Q := Fx.Q) (fun cs hcs => by obtain ⟨x, rfl, hq⟩ := in_fx hcs; exact ⟨x, rfl, hq⟩) h
structure Bd where
  id : Int
  kd : Int
  px : Int
  py : Int
  an : Int
  vx : Int
  vy : Int
  av : Int
  gx : Int
  gy : Int
  tq : Int
  ld : Int
  ad : Int
  gs : Int
  bul : Bool
  fr : Bool
  ns : Bool
  asl : Bool
  idl : Int
  fs : List Fx
def Bd.v (x : Bd) : AV := .agg [.i x.id, .i x.kd, .i x.px, .i x.py, .i x.an, .i x.vx, .i x.vy, .i x.av, .i x.gx, .i x.gy, .i x.tq, .i x.ld, .i x.ad, .i x.gs, .b x.bul, .b x.fr, .b x.ns, .b x.asl, .i x.idl, .sl (x.fs.map Fx.v)]
theorem lt_bd (N : Nat) (x : Bd) : Lt N x.v := lt_agg (lt_cons (lt_i _ _) (lt_cons (lt_i _ _) (lt_cons (lt_i _ _) (lt_cons (lt_i _ _) (lt_cons (lt_i _ _) (lt_cons (lt_i _ _) (lt_cons (lt_i _ _) (lt_cons (lt_i _ _) (lt_cons (lt_i _ _) (lt_cons (lt_i _ _) (lt_cons (lt_i _ _) (lt_cons (lt_i _ _) (lt_cons (lt_i _ _) (lt_cons (lt_i _ _) (lt_cons (lt_b _ _) (lt_cons (lt_b _ _) (lt_cons (lt_b _ _) (lt_cons (lt_b _ _) (lt_cons (lt_i _ _) (lt_cons (lt_fxs _ _) lt_nil))))))))))))))))))))
theorem lt_bds (N : Nat) (l : List Bd) : Lt N (.sl (l.map Bd.v)) := .sl _ (lt_map fun x => lt_bd N x)
def Bd.o : Bd := ⟨0, 0, 0, 0, 0, 0, 0, 0, 0, 0, 0, 0, 0, 0, false, false, false, false, 0, []⟩
theorem bd_getD {l : List Bd} {i : Nat} (h : i < l.length) : (l.map Bd.v).getD i .und = .agg [.i (l.getD i Bd.o).id, .i (l.getD i Bd.o).kd, .i (l.getD i Bd.o).px, .i (l.getD i Bd.o).py, .i (l.getD i Bd.o).an, .i (l.getD i Bd.o).vx, .i (l.getD i Bd.o).vy, .i (l.getD i Bd.o).av, .i (l.getD i Bd.o).gx, .i (l.getD i Bd.o).gy, .i (l.getD i Bd.o).tq, .i (l.getD i Bd.o).ld, .i (l.getD i Bd.o).ad, .i (l.getD i Bd.o).gs, .b (l.getD i Bd.o).bul, .b (l.getD i Bd.o).fr, .b (l.getD i Bd.o).ns, .b (l.getD i Bd.o).asl, .i (l.getD i Bd.o).idl, .sl ((l.getD i Bd.o).fs.map Fx.v)] := getD_map Bd.v Bd.o h
theorem bds_len (l : List Bd) : ∀ v ∈ l.map Bd.v, v.cells.length = 20 := map_len Bd.v _ (fun _ => rfl) l
theorem bds_one (l : List Bd) : ∀ v ∈ l.map Bd.v, ∀ c ∈ v.cells, c.one = true := map_one Bd.v (fun _ => rfl) l
theorem bds_all (l : List Bd) : (∀ v ∈ l.map Bd.v, v.cells.length = 20 ∧ ∀ c ∈ v.cells, c.one = true) = True := eq_true fun v hv => ⟨bds_len l v hv, bds_one l v hv⟩
def Bd.Q (x : Bd) : Prop := (x.fs.length ≤ maxLen ∧ ∀ y ∈ x.fs, y.Q)
theorem in_bd {cs : List AV} (h : InL [.int .i64, .int .i64, .int .i64, .int .i64, .int .i64, .int .i64, .int .i64, .int .i64, .int .i64, .int .i64, .int .i64, .int .i64, .int .i64, .int .i64, .bool, .bool, .bool, .bool, .int .i64, .sl true [.int .i64, .int .i64, .sl true [.int .i64, .int .i64], .int .i64, .int .i64, .int .i64, .bool, .int .i64, .int .i64, .int .i64]] cs) : ∃ x : Bd, cs = [.i x.id, .i x.kd, .i x.px, .i x.py, .i x.an, .i x.vx, .i x.vy, .i x.av, .i x.gx, .i x.gy, .i x.tq, .i x.ld, .i x.ad, .i x.gs, .b x.bul, .b x.fr, .b x.ns, .b x.asl, .i x.idl, .sl (x.fs.map Fx.v)] ∧ x.Q := by
  obtain ⟨c0, cs, rfl, h0, h⟩ := inL_cons.1 h
  obtain ⟨c1, cs, rfl, h1, h⟩ := inL_cons.1 h
  obtain ⟨c2, cs, rfl, h2, h⟩ := inL_cons.1 h
  obtain ⟨c3, cs, rfl, h3, h⟩ := inL_cons.1 h
  obtain ⟨c4, cs, rfl, h4, h⟩ := inL_cons.1 h
  obtain ⟨c5, cs, rfl, h5, h⟩ := inL_cons.1 h
  obtain ⟨c6, cs, rfl, h6, h⟩ := inL_cons.1 h
  obtain ⟨c7, cs, rfl, h7, h⟩ := inL_cons.1 h
  obtain ⟨c8, cs, rfl, h8, h⟩ := inL_cons.1 h
  obtain ⟨c9, cs, rfl, h9, h⟩ := inL_cons.1 h
  obtain ⟨c10, cs, rfl, h10, h⟩ := inL_cons.1 h
  obtain ⟨c11, cs, rfl, h11, h⟩ := inL_cons.1 h
  obtain ⟨c12, cs, rfl, h12, h⟩ := inL_cons.1 h
  obtain ⟨c13, cs, rfl, h13, h⟩ := inL_cons.1 h
  obtain ⟨c14, cs, rfl, h14, h⟩ := inL_cons.1 h
  obtain ⟨c15, cs, rfl, h15, h⟩ := inL_cons.1 h
  obtain ⟨c16, cs, rfl, h16, h⟩ := inL_cons.1 h
  obtain ⟨c17, cs, rfl, h17, h⟩ := inL_cons.1 h
  obtain ⟨c18, cs, rfl, h18, h⟩ := inL_cons.1 h
  obtain ⟨c19, cs, rfl, h19, h⟩ := inL_cons.1 h
  obtain rfl := inL_nil.1 h
  obtain ⟨x0, rfl, _⟩ := inC_int.1 h0
  obtain ⟨x1, rfl, _⟩ := inC_int.1 h1
  obtain ⟨x2, rfl, _⟩ := inC_int.1 h2
  obtain ⟨x3, rfl, _⟩ := inC_int.1 h3
  obtain ⟨x4, rfl, _⟩ := inC_int.1 h4
  obtain ⟨x5, rfl, _⟩ := inC_int.1 h5
  obtain ⟨x6, rfl, _⟩ := inC_int.1 h6
  obtain ⟨x7, rfl, _⟩ := inC_int.1 h7
  obtain ⟨x8, rfl, _⟩ := inC_int.1 h8
  obtain ⟨x9, rfl, _⟩ := inC_int.1 h9
  obtain ⟨x10, rfl, _⟩ := inC_int.1 h10
  obtain ⟨x11, rfl, _⟩ := inC_int.1 h11
  obtain ⟨x12, rfl, _⟩ := inC_int.1 h12
  obtain ⟨x13, rfl, _⟩ := inC_int.1 h13
  obtain ⟨x14, rfl⟩ := inC_bool.1 h14
  obtain ⟨x15, rfl⟩ := inC_bool.1 h15
  obtain ⟨x16, rfl⟩ := inC_bool.1 h16
  obtain ⟨x17, rfl⟩ := inC_bool.1 h17
  obtain ⟨x18, rfl, _⟩ := inC_int.1 h18
  obtain ⟨x19, rfl, q19, p19⟩ := in_fxs h19
  exact ⟨⟨x0, x1, x2, x3, x4, x5, x6, x7, x8, x9, x10, x11, x12, x13, x14, x15, x16, x17, x18, x19⟩, rfl, ⟨q19, p19⟩⟩
theorem in_bds {c : AV} (h : InC (.sl true [.int .i64, .int .i64, .int .i64, .int .i64, .int .i64, .int .i64, .int .i64, .int .i64, .int .i64, .int .i64, .int .i64, .int .i64, .int .i64, .int .i64, .bool, .bool, .bool, .bool, .int .i64, .sl true [.int .i64, .int .i64, .sl true [.int .i64, .int .i64], .int .i64, .int .i64, .int .i64, .bool, .int .i64, .int .i64, .int .i64]]) c) : ∃ l : List Bd, c = .sl (l.map Bd.v) ∧ l.length ≤ maxLen ∧ ∀ x ∈ l, x.Q :=
  inC_sl (F := Bd.v) (Q := Bd.Q) (fun cs hcs => by obtain ⟨x, rfl, hq⟩ := in_bd hcs; exact ⟨x, rfl, hq⟩) h
structure Jt where
  id : Int
  kd : Int
  ba : Int
  bb : Int
  ax : Int
  ay : Int
  bx : Int
  byy : Int
  ux : Int
  uy : Int
  ra : Int
  el : Bool
  lo : Int
  up : Int
  em : Bool
  ms : Int
  mf : Int
  so : Int
  br : Int
  cc : Bool
  i0 : Int
  i1 : Int
  i2 : Int
  i3 : Int
theorem Jt.ext' {x y : Jt} (h : x.id = y.id ∧ x.kd = y.kd ∧ x.ba = y.ba ∧ x.bb = y.bb ∧ x.ax = y.ax ∧ x.ay = y.ay ∧ x.bx = y.bx ∧ x.byy = y.byy ∧ x.ux = y.ux ∧ x.uy = y.uy ∧ x.ra = y.ra ∧ x.el = y.el ∧ x.lo = y.lo ∧ x.up = y.up ∧ x.em = y.em ∧ x.ms = y.ms ∧ x.mf = y.mf ∧ x.so = y.so ∧ x.br = y.br ∧ x.cc = y.cc ∧ x.i0 = y.i0 ∧ x.i1 = y.i1 ∧ x.i2 = y.i2 ∧ x.i3 = y.i3) : x = y := by cases x; cases y; simp_all
instance : DecidableEq Jt := fun x y => if h : x.id = y.id ∧ x.kd = y.kd ∧ x.ba = y.ba ∧ x.bb = y.bb ∧ x.ax = y.ax ∧ x.ay = y.ay ∧ x.bx = y.bx ∧ x.byy = y.byy ∧ x.ux = y.ux ∧ x.uy = y.uy ∧ x.ra = y.ra ∧ x.el = y.el ∧ x.lo = y.lo ∧ x.up = y.up ∧ x.em = y.em ∧ x.ms = y.ms ∧ x.mf = y.mf ∧ x.so = y.so ∧ x.br = y.br ∧ x.cc = y.cc ∧ x.i0 = y.i0 ∧ x.i1 = y.i1 ∧ x.i2 = y.i2 ∧ x.i3 = y.i3 then isTrue (Jt.ext' h) else isFalse (by rintro rfl; exact h (by simp))
def Jt.v (x : Jt) : AV := .agg [.i x.id, .i x.kd, .i x.ba, .i x.bb, .i x.ax, .i x.ay, .i x.bx, .i x.byy, .i x.ux, .i x.uy, .i x.ra, .b x.el, .i x.lo, .i x.up, .b x.em, .i x.ms, .i x.mf, .i x.so, .i x.br, .b x.cc, .i x.i0, .i x.i1, .i x.i2, .i x.i3]
theorem lt_jt (N : Nat) (x : Jt) : Lt N x.v := lt_agg (lt_cons (lt_i _ _) (lt_cons (lt_i _ _) (lt_cons (lt_i _ _) (lt_cons (lt_i _ _) (lt_cons (lt_i _ _) (lt_cons (lt_i _ _) (lt_cons (lt_i _ _) (lt_cons (lt_i _ _) (lt_cons (lt_i _ _) (lt_cons (lt_i _ _) (lt_cons (lt_i _ _) (lt_cons (lt_b _ _) (lt_cons (lt_i _ _) (lt_cons (lt_i _ _) (lt_cons (lt_b _ _) (lt_cons (lt_i _ _) (lt_cons (lt_i _ _) (lt_cons (lt_i _ _) (lt_cons (lt_i _ _) (lt_cons (lt_b _ _) (lt_cons (lt_i _ _) (lt_cons (lt_i _ _) (lt_cons (lt_i _ _) (lt_cons (lt_i _ _) lt_nil))))))))))))))))))))))))
theorem lt_jts (N : Nat) (l : List Jt) : Lt N (.sl (l.map Jt.v)) := .sl _ (lt_map fun x => lt_jt N x)
def Jt.o : Jt := ⟨0, 0, 0, 0, 0, 0, 0, 0, 0, 0, 0, false, 0, 0, false, 0, 0, 0, 0, false, 0, 0, 0, 0⟩
theorem jt_getD {l : List Jt} {i : Nat} (h : i < l.length) : (l.map Jt.v).getD i .und = .agg [.i (l.getD i Jt.o).id, .i (l.getD i Jt.o).kd, .i (l.getD i Jt.o).ba, .i (l.getD i Jt.o).bb, .i (l.getD i Jt.o).ax, .i (l.getD i Jt.o).ay, .i (l.getD i Jt.o).bx, .i (l.getD i Jt.o).byy, .i (l.getD i Jt.o).ux, .i (l.getD i Jt.o).uy, .i (l.getD i Jt.o).ra, .b (l.getD i Jt.o).el, .i (l.getD i Jt.o).lo, .i (l.getD i Jt.o).up, .b (l.getD i Jt.o).em, .i (l.getD i Jt.o).ms, .i (l.getD i Jt.o).mf, .i (l.getD i Jt.o).so, .i (l.getD i Jt.o).br, .b (l.getD i Jt.o).cc, .i (l.getD i Jt.o).i0, .i (l.getD i Jt.o).i1, .i (l.getD i Jt.o).i2, .i (l.getD i Jt.o).i3] := getD_map Jt.v Jt.o h
theorem jts_len (l : List Jt) : ∀ v ∈ l.map Jt.v, v.cells.length = 24 := map_len Jt.v _ (fun _ => rfl) l
theorem jts_one (l : List Jt) : ∀ v ∈ l.map Jt.v, ∀ c ∈ v.cells, c.one = true := map_one Jt.v (fun _ => rfl) l
theorem jts_all (l : List Jt) : (∀ v ∈ l.map Jt.v, v.cells.length = 24 ∧ ∀ c ∈ v.cells, c.one = true) = True := eq_true fun v hv => ⟨jts_len l v hv, jts_one l v hv⟩
def Jt.Q (_ : Jt) : Prop := True
theorem in_jt {cs : List AV} (h : InL [.int .i64, .int .i64, .int .i64, .int .i64, .int .i64, .int .i64, .int .i64, .int .i64, .int .i64, .int .i64, .int .i64, .bool, .int .i64, .int .i64, .bool, .int .i64, .int .i64, .int .i64, .int .i64, .bool, .int .i64, .int .i64, .int .i64, .int .i64] cs) : ∃ x : Jt, cs = [.i x.id, .i x.kd, .i x.ba, .i x.bb, .i x.ax, .i x.ay, .i x.bx, .i x.byy, .i x.ux, .i x.uy, .i x.ra, .b x.el, .i x.lo, .i x.up, .b x.em, .i x.ms, .i x.mf, .i x.so, .i x.br, .b x.cc, .i x.i0, .i x.i1, .i x.i2, .i x.i3] ∧ x.Q := by
  obtain ⟨c0, cs, rfl, h0, h⟩ := inL_cons.1 h
  obtain ⟨c1, cs, rfl, h1, h⟩ := inL_cons.1 h
  obtain ⟨c2, cs, rfl, h2, h⟩ := inL_cons.1 h
  obtain ⟨c3, cs, rfl, h3, h⟩ := inL_cons.1 h
  obtain ⟨c4, cs, rfl, h4, h⟩ := inL_cons.1 h
  obtain ⟨c5, cs, rfl, h5, h⟩ := inL_cons.1 h
  obtain ⟨c6, cs, rfl, h6, h⟩ := inL_cons.1 h
  obtain ⟨c7, cs, rfl, h7, h⟩ := inL_cons.1 h
  obtain ⟨c8, cs, rfl, h8, h⟩ := inL_cons.1 h
  obtain ⟨c9, cs, rfl, h9, h⟩ := inL_cons.1 h
  obtain ⟨c10, cs, rfl, h10, h⟩ := inL_cons.1 h
  obtain ⟨c11, cs, rfl, h11, h⟩ := inL_cons.1 h
  obtain ⟨c12, cs, rfl, h12, h⟩ := inL_cons.1 h
  obtain ⟨c13, cs, rfl, h13, h⟩ := inL_cons.1 h
  obtain ⟨c14, cs, rfl, h14, h⟩ := inL_cons.1 h
  obtain ⟨c15, cs, rfl, h15, h⟩ := inL_cons.1 h
  obtain ⟨c16, cs, rfl, h16, h⟩ := inL_cons.1 h
  obtain ⟨c17, cs, rfl, h17, h⟩ := inL_cons.1 h
  obtain ⟨c18, cs, rfl, h18, h⟩ := inL_cons.1 h
  obtain ⟨c19, cs, rfl, h19, h⟩ := inL_cons.1 h
  obtain ⟨c20, cs, rfl, h20, h⟩ := inL_cons.1 h
  obtain ⟨c21, cs, rfl, h21, h⟩ := inL_cons.1 h
  obtain ⟨c22, cs, rfl, h22, h⟩ := inL_cons.1 h
  obtain ⟨c23, cs, rfl, h23, h⟩ := inL_cons.1 h
  obtain rfl := inL_nil.1 h
  obtain ⟨x0, rfl, _⟩ := inC_int.1 h0
  obtain ⟨x1, rfl, _⟩ := inC_int.1 h1
  obtain ⟨x2, rfl, _⟩ := inC_int.1 h2
  obtain ⟨x3, rfl, _⟩ := inC_int.1 h3
  obtain ⟨x4, rfl, _⟩ := inC_int.1 h4
  obtain ⟨x5, rfl, _⟩ := inC_int.1 h5
  obtain ⟨x6, rfl, _⟩ := inC_int.1 h6
  obtain ⟨x7, rfl, _⟩ := inC_int.1 h7
  obtain ⟨x8, rfl, _⟩ := inC_int.1 h8
  obtain ⟨x9, rfl, _⟩ := inC_int.1 h9
  obtain ⟨x10, rfl, _⟩ := inC_int.1 h10
  obtain ⟨x11, rfl⟩ := inC_bool.1 h11
  obtain ⟨x12, rfl, _⟩ := inC_int.1 h12
  obtain ⟨x13, rfl, _⟩ := inC_int.1 h13
  obtain ⟨x14, rfl⟩ := inC_bool.1 h14
  obtain ⟨x15, rfl, _⟩ := inC_int.1 h15
  obtain ⟨x16, rfl, _⟩ := inC_int.1 h16
  obtain ⟨x17, rfl, _⟩ := inC_int.1 h17
  obtain ⟨x18, rfl, _⟩ := inC_int.1 h18
  obtain ⟨x19, rfl⟩ := inC_bool.1 h19
  obtain ⟨x20, rfl, _⟩ := inC_int.1 h20
  obtain ⟨x21, rfl, _⟩ := inC_int.1 h21
  obtain ⟨x22, rfl, _⟩ := inC_int.1 h22
  obtain ⟨x23, rfl, _⟩ := inC_int.1 h23
  exact ⟨⟨x0, x1, x2, x3, x4, x5, x6, x7, x8, x9, x10, x11, x12, x13, x14, x15, x16, x17, x18, x19, x20, x21, x22, x23⟩, rfl, trivial⟩
theorem in_jts {c : AV} (h : InC (.sl true [.int .i64, .int .i64, .int .i64, .int .i64, .int .i64, .int .i64, .int .i64, .int .i64, .int .i64, .int .i64, .int .i64, .bool, .int .i64, .int .i64, .bool, .int .i64, .int .i64, .int .i64, .int .i64, .bool, .int .i64, .int .i64, .int .i64, .int .i64]) c) : ∃ l : List Jt, c = .sl (l.map Jt.v) ∧ l.length ≤ maxLen ∧ ∀ x ∈ l, x.Q :=
  inC_sl (F := Jt.v) (Q := Jt.Q) (fun cs hcs => by obtain ⟨x, rfl, hq⟩ := in_jt hcs; exact ⟨x, rfl, hq⟩) h
structure Wd where
  ts : Int
  gx : Int
  gy : Int
  it : Int
  ss : Int
  bs : List Bd
  js : List Jt
  cs : List Ct
  ov : List K4
  nid : Int
  fr : Int
def Wd.v (x : Wd) : AV := .agg [.i x.ts, .i x.gx, .i x.gy, .i x.it, .i x.ss, .sl (x.bs.map Bd.v), .sl (x.js.map Jt.v), .sl (x.cs.map Ct.v), .sl (x.ov.map K4.v), .i x.nid, .i x.fr]
theorem lt_wd (N : Nat) (x : Wd) : Lt N x.v := lt_agg (lt_cons (lt_i _ _) (lt_cons (lt_i _ _) (lt_cons (lt_i _ _) (lt_cons (lt_i _ _) (lt_cons (lt_i _ _) (lt_cons (lt_bds _ _) (lt_cons (lt_jts _ _) (lt_cons (lt_cts _ _) (lt_cons (lt_k4s _ _) (lt_cons (lt_i _ _) (lt_cons (lt_i _ _) lt_nil)))))))))))
theorem lt_wds (N : Nat) (l : List Wd) : Lt N (.sl (l.map Wd.v)) := .sl _ (lt_map fun x => lt_wd N x)
def Wd.o : Wd := ⟨0, 0, 0, 0, 0, [], [], [], [], 0, 0⟩
theorem wd_getD {l : List Wd} {i : Nat} (h : i < l.length) : (l.map Wd.v).getD i .und = .agg [.i (l.getD i Wd.o).ts, .i (l.getD i Wd.o).gx, .i (l.getD i Wd.o).gy, .i (l.getD i Wd.o).it, .i (l.getD i Wd.o).ss, .sl ((l.getD i Wd.o).bs.map Bd.v), .sl ((l.getD i Wd.o).js.map Jt.v), .sl ((l.getD i Wd.o).cs.map Ct.v), .sl ((l.getD i Wd.o).ov.map K4.v), .i (l.getD i Wd.o).nid, .i (l.getD i Wd.o).fr] := getD_map Wd.v Wd.o h
theorem wds_len (l : List Wd) : ∀ v ∈ l.map Wd.v, v.cells.length = 11 := map_len Wd.v _ (fun _ => rfl) l
theorem wds_one (l : List Wd) : ∀ v ∈ l.map Wd.v, ∀ c ∈ v.cells, c.one = true := map_one Wd.v (fun _ => rfl) l
theorem wds_all (l : List Wd) : (∀ v ∈ l.map Wd.v, v.cells.length = 11 ∧ ∀ c ∈ v.cells, c.one = true) = True := eq_true fun v hv => ⟨wds_len l v hv, wds_one l v hv⟩
def Wd.Q (x : Wd) : Prop := (x.bs.length ≤ maxLen ∧ ∀ y ∈ x.bs, y.Q) ∧ (x.js.length ≤ maxLen ∧ ∀ y ∈ x.js, y.Q) ∧ (x.cs.length ≤ maxLen ∧ ∀ y ∈ x.cs, y.Q) ∧ (x.ov.length ≤ maxLen ∧ ∀ y ∈ x.ov, y.Q)
theorem in_wd {cs : List AV} (h : InL [.int .i64, .int .i64, .int .i64, .int .i64, .int .i64, .sl true [.int .i64, .int .i64, .int .i64, .int .i64, .int .i64, .int .i64, .int .i64, .int .i64, .int .i64, .int .i64, .int .i64, .int .i64, .int .i64, .int .i64, .bool, .bool, .bool, .bool, .int .i64, .sl true [.int .i64, .int .i64, .sl true [.int .i64, .int .i64], .int .i64, .int .i64, .int .i64, .bool, .int .i64, .int .i64, .int .i64]], .sl true [.int .i64, .int .i64, .int .i64, .int .i64, .int .i64, .int .i64, .int .i64, .int .i64, .int .i64, .int .i64, .int .i64, .bool, .int .i64, .int .i64, .bool, .int .i64, .int .i64, .int .i64, .int .i64, .bool, .int .i64, .int .i64, .int .i64, .int .i64], .sl true [.int .i64, .int .i64, .int .i64, .int .i64, .int .i64, .int .i64, .sl true [.int .i64, .int .i64, .int .i64, .int .i64, .int .i64, .int .i64]], .sl true [.int .i64, .int .i64, .int .i64, .int .i64], .int .i64, .int .i64] cs) : ∃ x : Wd, cs = [.i x.ts, .i x.gx, .i x.gy, .i x.it, .i x.ss, .sl (x.bs.map Bd.v), .sl (x.js.map Jt.v), .sl (x.cs.map Ct.v), .sl (x.ov.map K4.v), .i x.nid, .i x.fr] ∧ x.Q := by
  obtain ⟨c0, cs, rfl, h0, h⟩ := inL_cons.1 h
  obtain ⟨c1, cs, rfl, h1, h⟩ := inL_cons.1 h
  obtain ⟨c2, cs, rfl, h2, h⟩ := inL_cons.1 h
  obtain ⟨c3, cs, rfl, h3, h⟩ := inL_cons.1 h
  obtain ⟨c4, cs, rfl, h4, h⟩ := inL_cons.1 h
  obtain ⟨c5, cs, rfl, h5, h⟩ := inL_cons.1 h
  obtain ⟨c6, cs, rfl, h6, h⟩ := inL_cons.1 h
  obtain ⟨c7, cs, rfl, h7, h⟩ := inL_cons.1 h
  obtain ⟨c8, cs, rfl, h8, h⟩ := inL_cons.1 h
  obtain ⟨c9, cs, rfl, h9, h⟩ := inL_cons.1 h
  obtain ⟨c10, cs, rfl, h10, h⟩ := inL_cons.1 h
  obtain rfl := inL_nil.1 h
  obtain ⟨x0, rfl, _⟩ := inC_int.1 h0
  obtain ⟨x1, rfl, _⟩ := inC_int.1 h1
  obtain ⟨x2, rfl, _⟩ := inC_int.1 h2
  obtain ⟨x3, rfl, _⟩ := inC_int.1 h3
  obtain ⟨x4, rfl, _⟩ := inC_int.1 h4
  obtain ⟨x5, rfl, q5, p5⟩ := in_bds h5
  obtain ⟨x6, rfl, q6, p6⟩ := in_jts h6
  obtain ⟨x7, rfl, q7, p7⟩ := in_cts h7
  obtain ⟨x8, rfl, q8, p8⟩ := in_k4s h8
  obtain ⟨x9, rfl, _⟩ := inC_int.1 h9
  obtain ⟨x10, rfl, _⟩ := inC_int.1 h10
  exact ⟨⟨x0, x1, x2, x3, x4, x5, x6, x7, x8, x9, x10⟩, rfl, ⟨⟨q5, p5⟩, ⟨q6, p6⟩, ⟨q7, p7⟩, ⟨q8, p8⟩⟩⟩
theorem in_wds {c : AV} (h : InC (.sl true [.int .i64, .int .i64, .int .i64, .int .i64, .int .i64, .sl true [.int .i64, .int .i64, .int .i64, .int .i64, .int .i64, .int .i64, .int .i64, .int .i64, .int .i64, .int .i64, .int .i64, .int .i64, .int .i64, .int .i64, .bool, .bool, .bool, .bool, .int .i64, .sl true [.int .i64, .int .i64, .sl true [.int .i64, .int .i64], .int .i64, .int .i64, .int .i64, .bool, .int .i64, .int .i64, .int .i64]], .sl true [.int .i64, .int .i64, .int .i64, .int .i64, .int .i64, .int .i64, .int .i64, .int .i64, .int .i64, .int .i64, .int .i64, .bool, .int .i64, .int .i64, .bool, .int .i64, .int .i64, .int .i64, .int .i64, .bool, .int .i64, .int .i64, .int .i64, .int .i64], .sl true [.int .i64, .int .i64, .int .i64, .int .i64, .int .i64, .int .i64, .sl true [.int .i64, .int .i64, .int .i64, .int .i64, .int .i64, .int .i64]], .sl true [.int .i64, .int .i64, .int .i64, .int .i64], .int .i64, .int .i64]) c) : ∃ l : List Wd, c = .sl (l.map Wd.v) ∧ l.length ≤ maxLen ∧ ∀ x ∈ l, x.Q :=
  inC_sl (F := Wd.v) (Q := Wd.Q) (fun cs hcs => by obtain ⟨x, rfl, hq⟩ := in_wd hcs; exact ⟨x, rfl, hq⟩) h
structure Evt where
  kd : Int
  a : Int
  fa : Int
  b : Int
  fb : Int
theorem Evt.ext' {x y : Evt} (h : x.kd = y.kd ∧ x.a = y.a ∧ x.fa = y.fa ∧ x.b = y.b ∧ x.fb = y.fb) : x = y := by cases x; cases y; simp_all
instance : DecidableEq Evt := fun x y => if h : x.kd = y.kd ∧ x.a = y.a ∧ x.fa = y.fa ∧ x.b = y.b ∧ x.fb = y.fb then isTrue (Evt.ext' h) else isFalse (by rintro rfl; exact h (by simp))
def Evt.v (x : Evt) : AV := .agg [.i x.kd, .i x.a, .i x.fa, .i x.b, .i x.fb]
theorem lt_evt (N : Nat) (x : Evt) : Lt N x.v := lt_agg (lt_cons (lt_i _ _) (lt_cons (lt_i _ _) (lt_cons (lt_i _ _) (lt_cons (lt_i _ _) (lt_cons (lt_i _ _) lt_nil)))))
theorem lt_evts (N : Nat) (l : List Evt) : Lt N (.sl (l.map Evt.v)) := .sl _ (lt_map fun x => lt_evt N x)
def Evt.o : Evt := ⟨0, 0, 0, 0, 0⟩
theorem evt_getD {l : List Evt} {i : Nat} (h : i < l.length) : (l.map Evt.v).getD i .und = .agg [.i (l.getD i Evt.o).kd, .i (l.getD i Evt.o).a, .i (l.getD i Evt.o).fa, .i (l.getD i Evt.o).b, .i (l.getD i Evt.o).fb] := getD_map Evt.v Evt.o h
theorem evts_len (l : List Evt) : ∀ v ∈ l.map Evt.v, v.cells.length = 5 := map_len Evt.v _ (fun _ => rfl) l
theorem evts_one (l : List Evt) : ∀ v ∈ l.map Evt.v, ∀ c ∈ v.cells, c.one = true := map_one Evt.v (fun _ => rfl) l
theorem evts_all (l : List Evt) : (∀ v ∈ l.map Evt.v, v.cells.length = 5 ∧ ∀ c ∈ v.cells, c.one = true) = True := eq_true fun v hv => ⟨evts_len l v hv, evts_one l v hv⟩
def Evt.Q (_ : Evt) : Prop := True
theorem in_evt {cs : List AV} (h : InL [.int .i64, .int .i64, .int .i64, .int .i64, .int .i64] cs) : ∃ x : Evt, cs = [.i x.kd, .i x.a, .i x.fa, .i x.b, .i x.fb] ∧ x.Q := by
  obtain ⟨c0, cs, rfl, h0, h⟩ := inL_cons.1 h
  obtain ⟨c1, cs, rfl, h1, h⟩ := inL_cons.1 h
  obtain ⟨c2, cs, rfl, h2, h⟩ := inL_cons.1 h
  obtain ⟨c3, cs, rfl, h3, h⟩ := inL_cons.1 h
  obtain ⟨c4, cs, rfl, h4, h⟩ := inL_cons.1 h
  obtain rfl := inL_nil.1 h
  obtain ⟨x0, rfl, _⟩ := inC_int.1 h0
  obtain ⟨x1, rfl, _⟩ := inC_int.1 h1
  obtain ⟨x2, rfl, _⟩ := inC_int.1 h2
  obtain ⟨x3, rfl, _⟩ := inC_int.1 h3
  obtain ⟨x4, rfl, _⟩ := inC_int.1 h4
  exact ⟨⟨x0, x1, x2, x3, x4⟩, rfl, trivial⟩
theorem in_evts {c : AV} (h : InC (.sl true [.int .i64, .int .i64, .int .i64, .int .i64, .int .i64]) c) : ∃ l : List Evt, c = .sl (l.map Evt.v) ∧ l.length ≤ maxLen ∧ ∀ x ∈ l, x.Q :=
  inC_sl (F := Evt.v) (Q := Evt.Q) (fun cs hcs => by obtain ⟨x, rfl, hq⟩ := in_evt hcs; exact ⟨x, rfl, hq⟩) h
structure Rh where
  b : Int
  f : Int
  t : Int
  px : Int
  py : Int
  nx : Int
  ny : Int
theorem Rh.ext' {x y : Rh} (h : x.b = y.b ∧ x.f = y.f ∧ x.t = y.t ∧ x.px = y.px ∧ x.py = y.py ∧ x.nx = y.nx ∧ x.ny = y.ny) : x = y := by cases x; cases y; simp_all
instance : DecidableEq Rh := fun x y => if h : x.b = y.b ∧ x.f = y.f ∧ x.t = y.t ∧ x.px = y.px ∧ x.py = y.py ∧ x.nx = y.nx ∧ x.ny = y.ny then isTrue (Rh.ext' h) else isFalse (by rintro rfl; exact h (by simp))
def Rh.v (x : Rh) : AV := .agg [.i x.b, .i x.f, .i x.t, .i x.px, .i x.py, .i x.nx, .i x.ny]
theorem lt_rh (N : Nat) (x : Rh) : Lt N x.v := lt_agg (lt_cons (lt_i _ _) (lt_cons (lt_i _ _) (lt_cons (lt_i _ _) (lt_cons (lt_i _ _) (lt_cons (lt_i _ _) (lt_cons (lt_i _ _) (lt_cons (lt_i _ _) lt_nil)))))))
theorem lt_rhs (N : Nat) (l : List Rh) : Lt N (.sl (l.map Rh.v)) := .sl _ (lt_map fun x => lt_rh N x)
def Rh.o : Rh := ⟨0, 0, 0, 0, 0, 0, 0⟩
theorem rh_getD {l : List Rh} {i : Nat} (h : i < l.length) : (l.map Rh.v).getD i .und = .agg [.i (l.getD i Rh.o).b, .i (l.getD i Rh.o).f, .i (l.getD i Rh.o).t, .i (l.getD i Rh.o).px, .i (l.getD i Rh.o).py, .i (l.getD i Rh.o).nx, .i (l.getD i Rh.o).ny] := getD_map Rh.v Rh.o h
theorem rhs_len (l : List Rh) : ∀ v ∈ l.map Rh.v, v.cells.length = 7 := map_len Rh.v _ (fun _ => rfl) l
theorem rhs_one (l : List Rh) : ∀ v ∈ l.map Rh.v, ∀ c ∈ v.cells, c.one = true := map_one Rh.v (fun _ => rfl) l
theorem rhs_all (l : List Rh) : (∀ v ∈ l.map Rh.v, v.cells.length = 7 ∧ ∀ c ∈ v.cells, c.one = true) = True := eq_true fun v hv => ⟨rhs_len l v hv, rhs_one l v hv⟩
def Rh.Q (_ : Rh) : Prop := True
theorem in_rh {cs : List AV} (h : InL [.int .i64, .int .i64, .int .i64, .int .i64, .int .i64, .int .i64, .int .i64] cs) : ∃ x : Rh, cs = [.i x.b, .i x.f, .i x.t, .i x.px, .i x.py, .i x.nx, .i x.ny] ∧ x.Q := by
  obtain ⟨c0, cs, rfl, h0, h⟩ := inL_cons.1 h
  obtain ⟨c1, cs, rfl, h1, h⟩ := inL_cons.1 h
  obtain ⟨c2, cs, rfl, h2, h⟩ := inL_cons.1 h
  obtain ⟨c3, cs, rfl, h3, h⟩ := inL_cons.1 h
  obtain ⟨c4, cs, rfl, h4, h⟩ := inL_cons.1 h
  obtain ⟨c5, cs, rfl, h5, h⟩ := inL_cons.1 h
  obtain ⟨c6, cs, rfl, h6, h⟩ := inL_cons.1 h
  obtain rfl := inL_nil.1 h
  obtain ⟨x0, rfl, _⟩ := inC_int.1 h0
  obtain ⟨x1, rfl, _⟩ := inC_int.1 h1
  obtain ⟨x2, rfl, _⟩ := inC_int.1 h2
  obtain ⟨x3, rfl, _⟩ := inC_int.1 h3
  obtain ⟨x4, rfl, _⟩ := inC_int.1 h4
  obtain ⟨x5, rfl, _⟩ := inC_int.1 h5
  obtain ⟨x6, rfl, _⟩ := inC_int.1 h6
  exact ⟨⟨x0, x1, x2, x3, x4, x5, x6⟩, rfl, trivial⟩
theorem in_rhs {c : AV} (h : InC (.sl true [.int .i64, .int .i64, .int .i64, .int .i64, .int .i64, .int .i64, .int .i64]) c) : ∃ l : List Rh, c = .sl (l.map Rh.v) ∧ l.length ≤ maxLen ∧ ∀ x ∈ l, x.Q :=
  inC_sl (F := Rh.v) (Q := Rh.Q) (fun cs hcs => by obtain ⟨x, rfl, hq⟩ := in_rh hcs; exact ⟨x, rfl, hq⟩) h
structure En where
  id : Int
  x : Int
  y : Int
  u : Int
  w : Int
theorem En.ext' {x y : En} (h : x.id = y.id ∧ x.x = y.x ∧ x.y = y.y ∧ x.u = y.u ∧ x.w = y.w) : x = y := by cases x; cases y; simp_all
instance : DecidableEq En := fun x y => if h : x.id = y.id ∧ x.x = y.x ∧ x.y = y.y ∧ x.u = y.u ∧ x.w = y.w then isTrue (En.ext' h) else isFalse (by rintro rfl; exact h (by simp))
def En.v (x : En) : AV := .agg [.i x.id, .i x.x, .i x.y, .i x.u, .i x.w]
theorem lt_en (N : Nat) (x : En) : Lt N x.v := lt_agg (lt_cons (lt_i _ _) (lt_cons (lt_i _ _) (lt_cons (lt_i _ _) (lt_cons (lt_i _ _) (lt_cons (lt_i _ _) lt_nil)))))
theorem lt_ens (N : Nat) (l : List En) : Lt N (.sl (l.map En.v)) := .sl _ (lt_map fun x => lt_en N x)
def En.o : En := ⟨0, 0, 0, 0, 0⟩
theorem en_getD {l : List En} {i : Nat} (h : i < l.length) : (l.map En.v).getD i .und = .agg [.i (l.getD i En.o).id, .i (l.getD i En.o).x, .i (l.getD i En.o).y, .i (l.getD i En.o).u, .i (l.getD i En.o).w] := getD_map En.v En.o h
theorem ens_len (l : List En) : ∀ v ∈ l.map En.v, v.cells.length = 5 := map_len En.v _ (fun _ => rfl) l
theorem ens_one (l : List En) : ∀ v ∈ l.map En.v, ∀ c ∈ v.cells, c.one = true := map_one En.v (fun _ => rfl) l
theorem ens_all (l : List En) : (∀ v ∈ l.map En.v, v.cells.length = 5 ∧ ∀ c ∈ v.cells, c.one = true) = True := eq_true fun v hv => ⟨ens_len l v hv, ens_one l v hv⟩
def En.Q (_ : En) : Prop := True
theorem in_en {cs : List AV} (h : InL [.int .i64, .int .i64, .int .i64, .int .i64, .int .i64] cs) : ∃ x : En, cs = [.i x.id, .i x.x, .i x.y, .i x.u, .i x.w] ∧ x.Q := by
  obtain ⟨c0, cs, rfl, h0, h⟩ := inL_cons.1 h
  obtain ⟨c1, cs, rfl, h1, h⟩ := inL_cons.1 h
  obtain ⟨c2, cs, rfl, h2, h⟩ := inL_cons.1 h
  obtain ⟨c3, cs, rfl, h3, h⟩ := inL_cons.1 h
  obtain ⟨c4, cs, rfl, h4, h⟩ := inL_cons.1 h
  obtain rfl := inL_nil.1 h
  obtain ⟨x0, rfl, _⟩ := inC_int.1 h0
  obtain ⟨x1, rfl, _⟩ := inC_int.1 h1
  obtain ⟨x2, rfl, _⟩ := inC_int.1 h2
  obtain ⟨x3, rfl, _⟩ := inC_int.1 h3
  obtain ⟨x4, rfl, _⟩ := inC_int.1 h4
  exact ⟨⟨x0, x1, x2, x3, x4⟩, rfl, trivial⟩
theorem in_ens {c : AV} (h : InC (.sl true [.int .i64, .int .i64, .int .i64, .int .i64, .int .i64]) c) : ∃ l : List En, c = .sl (l.map En.v) ∧ l.length ≤ maxLen ∧ ∀ x ∈ l, x.Q :=
  inC_sl (F := En.v) (Q := En.Q) (fun cs hcs => by obtain ⟨x, rfl, hq⟩ := in_en hcs; exact ⟨x, rfl, hq⟩) h
structure Px where
  b : Int
  f : Int
  x : Int
  y : Int
  u : Int
  w : Int
theorem Px.ext' {x y : Px} (h : x.b = y.b ∧ x.f = y.f ∧ x.x = y.x ∧ x.y = y.y ∧ x.u = y.u ∧ x.w = y.w) : x = y := by cases x; cases y; simp_all
instance : DecidableEq Px := fun x y => if h : x.b = y.b ∧ x.f = y.f ∧ x.x = y.x ∧ x.y = y.y ∧ x.u = y.u ∧ x.w = y.w then isTrue (Px.ext' h) else isFalse (by rintro rfl; exact h (by simp))
def Px.v (x : Px) : AV := .agg [.i x.b, .i x.f, .i x.x, .i x.y, .i x.u, .i x.w]
theorem lt_px (N : Nat) (x : Px) : Lt N x.v := lt_agg (lt_cons (lt_i _ _) (lt_cons (lt_i _ _) (lt_cons (lt_i _ _) (lt_cons (lt_i _ _) (lt_cons (lt_i _ _) (lt_cons (lt_i _ _) lt_nil))))))
theorem lt_pxs (N : Nat) (l : List Px) : Lt N (.sl (l.map Px.v)) := .sl _ (lt_map fun x => lt_px N x)
def Px.o : Px := ⟨0, 0, 0, 0, 0, 0⟩
theorem px_getD {l : List Px} {i : Nat} (h : i < l.length) : (l.map Px.v).getD i .und = .agg [.i (l.getD i Px.o).b, .i (l.getD i Px.o).f, .i (l.getD i Px.o).x, .i (l.getD i Px.o).y, .i (l.getD i Px.o).u, .i (l.getD i Px.o).w] := getD_map Px.v Px.o h
theorem pxs_len (l : List Px) : ∀ v ∈ l.map Px.v, v.cells.length = 6 := map_len Px.v _ (fun _ => rfl) l
theorem pxs_one (l : List Px) : ∀ v ∈ l.map Px.v, ∀ c ∈ v.cells, c.one = true := map_one Px.v (fun _ => rfl) l
theorem pxs_all (l : List Px) : (∀ v ∈ l.map Px.v, v.cells.length = 6 ∧ ∀ c ∈ v.cells, c.one = true) = True := eq_true fun v hv => ⟨pxs_len l v hv, pxs_one l v hv⟩
def Px.Q (_ : Px) : Prop := True
theorem in_px {cs : List AV} (h : InL [.int .i64, .int .i64, .int .i64, .int .i64, .int .i64, .int .i64] cs) : ∃ x : Px, cs = [.i x.b, .i x.f, .i x.x, .i x.y, .i x.u, .i x.w] ∧ x.Q := by
  obtain ⟨c0, cs, rfl, h0, h⟩ := inL_cons.1 h
  obtain ⟨c1, cs, rfl, h1, h⟩ := inL_cons.1 h
  obtain ⟨c2, cs, rfl, h2, h⟩ := inL_cons.1 h
  obtain ⟨c3, cs, rfl, h3, h⟩ := inL_cons.1 h
  obtain ⟨c4, cs, rfl, h4, h⟩ := inL_cons.1 h
  obtain ⟨c5, cs, rfl, h5, h⟩ := inL_cons.1 h
  obtain rfl := inL_nil.1 h
  obtain ⟨x0, rfl, _⟩ := inC_int.1 h0
  obtain ⟨x1, rfl, _⟩ := inC_int.1 h1
  obtain ⟨x2, rfl, _⟩ := inC_int.1 h2
  obtain ⟨x3, rfl, _⟩ := inC_int.1 h3
  obtain ⟨x4, rfl, _⟩ := inC_int.1 h4
  obtain ⟨x5, rfl, _⟩ := inC_int.1 h5
  exact ⟨⟨x0, x1, x2, x3, x4, x5⟩, rfl, trivial⟩
theorem in_pxs {c : AV} (h : InC (.sl true [.int .i64, .int .i64, .int .i64, .int .i64, .int .i64, .int .i64]) c) : ∃ l : List Px, c = .sl (l.map Px.v) ∧ l.length ≤ maxLen ∧ ∀ x ∈ l, x.Q :=
  inC_sl (F := Px.v) (Q := Px.Q) (fun cs hcs => by obtain ⟨x, rfl, hq⟩ := in_px hcs; exact ⟨x, rfl, hq⟩) h
structure P2 where
  a : Int
  b : Int
theorem P2.ext' {x y : P2} (h : x.a = y.a ∧ x.b = y.b) : x = y := by cases x; cases y; simp_all
instance : DecidableEq P2 := fun x y => if h : x.a = y.a ∧ x.b = y.b then isTrue (P2.ext' h) else isFalse (by rintro rfl; exact h (by simp))
def P2.v (x : P2) : AV := .agg [.i x.a, .i x.b]
theorem lt_p2 (N : Nat) (x : P2) : Lt N x.v := lt_agg (lt_cons (lt_i _ _) (lt_cons (lt_i _ _) lt_nil))
theorem lt_p2s (N : Nat) (l : List P2) : Lt N (.sl (l.map P2.v)) := .sl _ (lt_map fun x => lt_p2 N x)
def P2.o : P2 := ⟨0, 0⟩
theorem p2_getD {l : List P2} {i : Nat} (h : i < l.length) : (l.map P2.v).getD i .und = .agg [.i (l.getD i P2.o).a, .i (l.getD i P2.o).b] := getD_map P2.v P2.o h
theorem p2s_len (l : List P2) : ∀ v ∈ l.map P2.v, v.cells.length = 2 := map_len P2.v _ (fun _ => rfl) l
theorem p2s_one (l : List P2) : ∀ v ∈ l.map P2.v, ∀ c ∈ v.cells, c.one = true := map_one P2.v (fun _ => rfl) l
theorem p2s_all (l : List P2) : (∀ v ∈ l.map P2.v, v.cells.length = 2 ∧ ∀ c ∈ v.cells, c.one = true) = True := eq_true fun v hv => ⟨p2s_len l v hv, p2s_one l v hv⟩
def P2.Q (_ : P2) : Prop := True
theorem in_p2 {cs : List AV} (h : InL [.int .i64, .int .i64] cs) : ∃ x : P2, cs = [.i x.a, .i x.b] ∧ x.Q := by
  obtain ⟨c0, cs, rfl, h0, h⟩ := inL_cons.1 h
  obtain ⟨c1, cs, rfl, h1, h⟩ := inL_cons.1 h
  obtain rfl := inL_nil.1 h
  obtain ⟨x0, rfl, _⟩ := inC_int.1 h0
  obtain ⟨x1, rfl, _⟩ := inC_int.1 h1
  exact ⟨⟨x0, x1⟩, rfl, trivial⟩
theorem in_p2s {c : AV} (h : InC (.sl true [.int .i64, .int .i64]) c) : ∃ l : List P2, c = .sl (l.map P2.v) ∧ l.length ≤ maxLen ∧ ∀ x ∈ l, x.Q :=
  inC_sl (F := P2.v) (Q := P2.Q) (fun cs hcs => by obtain ⟨x, rfl, hq⟩ := in_p2 hcs; exact ⟨x, rfl, hq⟩) h
end Go.Carom
