/-
  The plain law of strictly sorted lists: they are one where their members are. Conditions: none; no program in sight.
-/
import Derived.Test.YtplmagdbnbijlaaGreatMC
import Derived.Test.YtplmagdbnbijlaaGreatAl24
set_option linter.all false
namespace Go.Carom
open Go Go.AL
structure STO {α : Type} (lt : α → α → Bool) : Prop where
 irr : ∀ a,lt a a = false
 tr : ∀ a b c,lt a b = true → lt b c = true → lt a c = true
 tri : ∀ a b,lt a b = false → lt b a = false → a = b
section
variable {α : Type} {lt : α → α → Bool}
def SS (lt : α → α → Bool) (l : List α) : Prop:=l.Pairwise fun a b=>lt a b = true
theorem STO.asym (h : STO lt) {a b : α} (h1 : lt a b = true) (h2 : lt b a = true) : False:=by
 have:=h.tr a b a h1 h2; rw [h.irr] at this; cases this
theorem SS.ext (h : STO lt) : ∀ {l m : List α},SS lt l → SS lt m → (∀ x,x ∈ l ↔ x ∈ m) → l = m
 | [],[],_,_,_=>rfl
 | [],b :: m,_,_,hm=>by have:=(hm b).2 (List.mem_cons_self ..); cases this
 | a :: l,[],_,_,hm=>by have:=(hm a).1 (List.mem_cons_self ..); cases this
 | a :: l,b :: m,h1,h2,hm=>by
  obtain ⟨p1,q1⟩:=List.pairwise_cons.1 h1
  obtain ⟨p2,q2⟩:=List.pairwise_cons.1 h2
  have hab : a = b:=by
   rcases List.mem_cons.1 ((hm a).1 (List.mem_cons_self ..)) with e|e
   ·exact e
   ·rcases List.mem_cons.1 ((hm b).2 (List.mem_cons_self ..)) with e'|e'
    ·exact e'.symm
    ·exact (h.asym (p1 b e') (p2 a e)).elim
  subst hab
  have : l = m:=SS.ext h q1 q2 fun x=>by
   constructor
   ·intro hx
    rcases List.mem_cons.1 ((hm x).1 (List.mem_cons_of_mem _ hx)) with e|e
    ·subst e; have:=p1 x hx; rw [h.irr] at this; cases this
    ·exact e
   ·intro hx
    rcases List.mem_cons.1 ((hm x).2 (List.mem_cons_of_mem _ hx)) with e|e
    ·subst e; have:=p2 x hx; rw [h.irr] at this; cases this
    ·exact e
  rw [this]
def insS (lt : α → α → Bool) (x : α) (l : List α) : List α:=l.takeWhile (fun y=>lt y x) ++ x :: l.dropWhile (fun y=>lt y x)
theorem mem_insS {x y : α} {l : List α} : y ∈ insS lt x l ↔ y = x ∨ y ∈ l:=by
 unfold insS
 have h:=List.takeWhile_append_dropWhile (p:=fun y=>lt y x) (l:=l)
 constructor
 ·intro hy
  rcases List.mem_append.1 hy with hy|hy
  ·exact .inr (by rw [← h]; exact List.mem_append_left _ hy)
  ·rcases List.mem_cons.1 hy with hy|hy
   ·exact .inl hy
   ·exact .inr (by rw [← h]; exact List.mem_append_right _ hy)
 ·rintro (rfl|hy)
  ·exact List.mem_append_right _ (List.mem_cons_self ..)
  ·rw [← h] at hy
   rcases List.mem_append.1 hy with hy|hy
   ·exact List.mem_append_left _ hy
   ·exact List.mem_append_right _ (List.mem_cons_of_mem _ hy)
theorem SS.insS (h : STO lt) {x : α} : ∀ {l : List α},SS lt l → x ∉ l → SS lt (insS lt x l)
 | [],_,_=>by simp [Carom.insS,SS]
 | a :: l,h1,hx=>by
  obtain ⟨p1,q1⟩:=List.pairwise_cons.1 h1
  by_cases ha : lt a x = true
  ·have e : Carom.insS lt x (a :: l) = a :: Carom.insS lt x l:=by unfold Carom.insS; simp [ha]
   rw [e]
   refine List.pairwise_cons.2 ⟨fun y hy=>?_,SS.insS h q1 (fun hm=>hx (List.mem_cons_of_mem _ hm))⟩
   rcases mem_insS.1 hy with rfl|hy
   ·exact ha
   ·exact p1 y hy
  ·have e : Carom.insS lt x (a :: l) = x :: a :: l:=by unfold Carom.insS; simp [ha]
   rw [e]
   have hxa : lt x a = true:=by
    cases hh : lt x a with
    | true=>rfl
    | false=>exact (hx (by rw [h.tri x a hh (by simpa using ha)]; exact List.mem_cons_self ..)).elim
   refine List.pairwise_cons.2 ⟨fun y hy=>?_,h1⟩
   rcases List.mem_cons.1 hy with rfl|hy
   ·exact hxa
   ·exact h.tr _ _ _ hxa (p1 y hy)
theorem ss_mergeSort (h : STO lt) {l : List α} (hn : l.Nodup) : SS lt (l.mergeSort fun x y=>!lt y x) ∧ ∀ x,x ∈ (l.mergeSort fun x y=>!lt y x) ↔ x ∈ l:=by
 refine ⟨?_,fun x=>(List.mergeSort_perm l _).mem_iff⟩
 have h1 : (l.mergeSort fun x y=>!lt y x).Pairwise fun a b=>(!lt b a) = true:=by
  refine List.pairwise_mergeSort ?_ ?_ l
  ·intro a b c hab hbc
   simp only [Bool.not_eq_true'] at hab hbc ⊢
   cases hca : lt c a with
   | false=>rfl
   | true=>
    cases hac : lt a b with
    | true=>rw [h.tr c a b hca hac] at hbc; cases hbc
    | false=>rw [h.tri a b hac hab] at hca; rw [hca] at hbc; cases hbc
  ·intro a b
   cases hab : lt a b with
   | false=>simp
   | true=>
    cases hba : lt b a with
    | false=>simp
    | true=>exact (h.asym hab hba).elim
 have h2 : (l.mergeSort fun x y=>!lt y x).Nodup:=(List.mergeSort_perm l _).nodup_iff.2 hn
 refine (h1.and h2).imp ?_
 rintro a b ⟨p,q⟩
 simp only [Bool.not_eq_true'] at p
 cases hab : lt a b with
 | true=>rfl
 | false=>exact (q (h.tri a b hab p)).elim
def comp [DecidableEq α] : List α → List α
 | []=>[]
 | [a]=>[a]
 | a :: b :: l=>if a = b then comp (b :: l) else a :: comp (b :: l)
end
end Go.Carom
/-
 The plain law of chapter 21: entries that count,sorted. Conditions: none; no program in sight.
-/
namespace Go.Carom
open Go Go.AL
section
variable {α : Type} {lt : α → α → Bool}
structure SO {α : Type} (lt : α → α → Bool) : Prop where
 irr : ∀ a,lt a a = false
 tr : ∀ a b c,lt a b = true → lt b c = true → lt a c = true
 ntr : ∀ a b c,lt a b = false → lt b c = false → lt a c = false
theorem SO.asym (h : SO lt) {a b : α} (h1 : lt a b = true) (h2 : lt b a = true) : False:=by
 have:=h.tr a b a h1 h2; rw [h.irr] at this; cases this
theorem SS.ext' (h : SO lt) : ∀ {l m : List α},SS lt l → SS lt m → (∀ x,x ∈ l ↔ x ∈ m) → l = m
 | [],[],_,_,_=>rfl
 | [],b :: m,_,_,hm=>by have:=(hm b).2 (List.mem_cons_self ..); cases this
 | a :: l,[],_,_,hm=>by have:=(hm a).1 (List.mem_cons_self ..); cases this
 | a :: l,b :: m,h1,h2,hm=>by
  obtain ⟨p1,q1⟩:=List.pairwise_cons.1 h1
  obtain ⟨p2,q2⟩:=List.pairwise_cons.1 h2
  have hab : a = b:=by
   rcases List.mem_cons.1 ((hm a).1 (List.mem_cons_self ..)) with e|e
   ·exact e
   ·rcases List.mem_cons.1 ((hm b).2 (List.mem_cons_self ..)) with e'|e'
    ·exact e'.symm
    ·exact (h.asym (p1 b e') (p2 a e)).elim
  subst hab
  have : l = m:=SS.ext' h q1 q2 fun x=>by
   constructor
   ·intro hx
    rcases List.mem_cons.1 ((hm x).1 (List.mem_cons_of_mem _ hx)) with e|e
    ·subst e; have:=p1 x hx; rw [h.irr] at this; cases this
    ·exact e
   ·intro hx
    rcases List.mem_cons.1 ((hm x).2 (List.mem_cons_of_mem _ hx)) with e|e
    ·subst e; have:=p2 x hx; rw [h.irr] at this; cases this
    ·exact e
  rw [this]
theorem ss_mergeSort' (h : SO lt) {l : List α} (hn : l.Nodup) (hd : ∀ a ∈ l,∀ b ∈ l,lt a b = false → lt b a = false → a = b) : SS lt (l.mergeSort fun x y=>!lt y x) ∧ ∀ x,x ∈ (l.mergeSort fun x y=>!lt y x) ↔ x ∈ l:=by
 have hm : ∀ x,x ∈ (l.mergeSort fun x y=>!lt y x) ↔ x ∈ l:=fun x=>(List.mergeSort_perm l _).mem_iff
 refine ⟨?_,hm⟩
 have h1 : (l.mergeSort fun x y=>!lt y x).Pairwise fun a b=>(!lt b a) = true:=by
  refine List.pairwise_mergeSort ?_ ?_ l
  ·intro a b c hab hbc
   simp only [Bool.not_eq_true'] at hab hbc ⊢
   exact h.ntr c b a hbc hab
  ·intro a b
   cases hab : lt a b with
   | false=>simp
   | true=>
    cases hba : lt b a with
    | false=>simp
    | true=>exact (h.asym hab hba).elim
 have h2 : (l.mergeSort fun x y=>!lt y x).Nodup:=(List.mergeSort_perm l _).nodup_iff.2 hn
 have h3:=(h1.and h2).imp_of_mem (S:=fun a b=>lt a b = true) (fun {a b} ha hb hab=>?_)
 ·exact h3
 ·obtain ⟨p,q⟩:=hab
  simp only [Bool.not_eq_true'] at p
  cases hlt : lt a b with
  | true=>rfl
  | false=>exact (q (hd a ((hm a).1 ha) b ((hm b).1 hb) hlt p)).elim
end
def vE (e : En) : Bool:=bvalid e.x e.y e.u e.w
def newE (acc : List En) (e : En) : Bool:=vE e && acc.all fun o=>!decide (o.id = e.id)
def addE (acc : List En) (e : En) : List En:=if newE acc e then acc ++ [e] else acc
def flt (l : List En) : List En:=l.foldl addE []
def fltI (l : List En) (i : Nat) : List En:=(l.take i).foldl addE []
theorem foldl_take' {α β : Type} (f : β → α → β) (d : α) (l : List α) (a : β) (i : Nat) (h : i < l.length) : (l.take (i + 1)).foldl f a = f ((l.take i).foldl f a) (l.getD i d):=by
 rw [List.take_succ_eq_append_getElem h,List.foldl_append,List.getD_eq_getElem?_getD,List.getElem?_eq_getElem h]; rfl
theorem fltI_next (l : List En) (i : Nat) (h : i < l.length) : fltI l (i + 1) = addE (fltI l i) (l.getD i En.o):=foldl_take' _ _ _ _ _ h
theorem fltI_all (l : List En) : fltI l l.length = flt l:=by unfold fltI flt; rw [List.take_length]
theorem fltI_len (l : List En) (i : Nat) : (fltI l i).length ≤ i:=by
 by_cases hi : i ≤ l.length
 ·induction i with
  | zero=>simp [fltI]
  | succ i ih=>
   rw [fltI_next l i (by omega)]
   have:=ih (by omega)
   unfold addE; split
   ·simp; omega
   ·omega
 ·unfold fltI
  have : ∀ (m acc : List En),(m.foldl addE acc).length ≤ acc.length + m.length:=by
   intro m
   induction m with
   | nil=>intro acc; simp
   | cons x m ih=>
    intro acc
    refine Nat.le_trans (ih _) ?_
    unfold addE; split
    ·simp; omega
    ·simp
  have h2:=this (l.take i) []
  rw [List.length_take] at h2
  simp at h2 ⊢
  omega
def DistE (l : List En) : Prop:=l.Pairwise fun a b=>a.id ≠ b.id
theorem addE_dist {acc : List En} {e : En} (h : DistE acc) : DistE (addE acc e):=by
 unfold addE; split
 ·rename_i hn
  refine List.pairwise_append.2 ⟨h,List.pairwise_singleton _ _,fun a ha b hb=>?_⟩
  rw [List.mem_singleton.1 hb]
  unfold newE at hn
  simp only [Bool.and_eq_true,List.all_eq_true,Bool.not_eq_true',decide_eq_false_iff_not] at hn
  exact hn.2 a ha
 ·exact h
theorem flt_dist (l : List En) : DistE (flt l):=by
 unfold flt
 have : ∀ (m acc : List En),DistE acc → DistE (m.foldl addE acc):=by
  intro m
  induction m with
  | nil=>intro acc h; exact h
  | cons x m ih=>intro acc h; exact ih _ (addE_dist h)
 exact this l [] List.Pairwise.nil
theorem DistE.inj {l : List En} (h : DistE l) : ∀ a ∈ l,∀ b ∈ l,a.id = b.id → a = b:=by
 induction l with
 | nil=>intro a ha; cases ha
 | cons x l ih=>
  obtain ⟨p,q⟩:=List.pairwise_cons.1 h
  intro a ha b hb hab
  rcases List.mem_cons.1 ha with e1|ha' <;> rcases List.mem_cons.1 hb with e2|hb'
  ·rw [e1,e2]
  ·subst e1; exact (p b hb' hab).elim
  ·subst e2; exact (p a ha' hab.symm).elim
  ·exact ih q a ha' b hb' hab
theorem DistE.nodup {l : List En} (h : DistE l) : l.Nodup:=h.imp (fun hne he=>hne (by rw [he]))
def enl (a b : En) : Bool:=decide (a.x < b.x) || (decide (a.x = b.x) && decide (a.id < b.id))
theorem enl_iff (a b : En) : enl a b = true ↔ a.x < b.x ∨ a.x = b.x ∧ a.id < b.id:=by simp [enl]
theorem enl_neg (a b : En) : enl a b = false ↔ ¬ (a.x < b.x ∨ a.x = b.x ∧ a.id < b.id):=by rw [← enl_iff,Bool.not_eq_true]
theorem enl_SO : SO enl:=by
 refine ⟨fun a=>?_,fun a b c h1 h2=>?_,fun a b c h1 h2=>?_⟩
 ·rw [enl_neg]; omega
 ·rw [enl_iff] at *; omega
 ·rw [enl_neg] at *; omega
theorem enl_tri {l : List En} (h : DistE l) : ∀ a ∈ l,∀ b ∈ l,enl a b = false → enl b a = false → a = b:=by
 intro a ha b hb h1 h2
 rw [enl_neg] at h1 h2
 exact h.inj a ha b hb (by omega)
def sortE (l : List En) : List En:=(flt l).mergeSort fun x y=>!enl y x
theorem sortE_SS (l : List En) : SS enl (sortE l) ∧ ∀ x,x ∈ sortE l ↔ x ∈ flt l:=ss_mergeSort' enl_SO (flt_dist l).nodup (enl_tri (flt_dist l))
end Go.Carom
/-
 Numbers compared as the library does. Conditions: none; no program in sight.
-/
namespace Go.Carom
open Go Go.AL
def cmpI (a b : Int) : Int:=if a < b then -1 else if b < a then 1 else 0
def orI (a b : Int) : Int:=if a = 0 then b else a
def cmpE (a b : En) : Int:=orI (cmpI a.x b.x) (cmpI a.id b.id)
theorem cmpE_lt (a b : En) : decide (cmpE a b < 0) = enl a b:=by
 rw [Bool.eq_iff_iff,enl_iff,decide_eq_true_eq]
 unfold cmpE orI cmpI
 split <;> split <;> (try split) <;> (try split) <;> omega
def p2l (a b : P2) : Bool:=decide (a.a < b.a) || (decide (a.a = b.a) && decide (a.b < b.b))
theorem p2l_iff (a b : P2) : p2l a b = true ↔ a.a < b.a ∨ a.a = b.a ∧ a.b < b.b:=by simp [p2l]
def cmpP (a b : P2) : Int:=orI (cmpI a.a b.a) (cmpI a.b b.b)
theorem cmpP_lt (a b : P2) : decide (cmpP a b < 0) = p2l a b:=by
 rw [Bool.eq_iff_iff,p2l_iff,decide_eq_true_eq]
 unfold cmpP orI cmpI
 split <;> split <;> (try split) <;> (try split) <;> omega
theorem p2l_STO : STO p2l:=by
 refine ⟨fun a=>?_,fun a b c h1 h2=>?_,fun a b h1 h2=>?_⟩
 ·rw [← Bool.not_eq_true,p2l_iff]; omega
 ·rw [p2l_iff] at *; omega
 ·rw [← Bool.not_eq_true,p2l_iff] at h1 h2
  exact P2.ext' (by omega)
end Go.Carom
/-
 The map of the IDs that were met. Conditions: none; no program in sight.
-/
namespace Go.Carom
open Go Go.AL
def idK (n : Int) : List Value:=[.int .i64 n]
def idM (l : List Int) : List (List Value × Value):=l.map fun n=>(idK n,.bool true)
theorem idK_eq (a b : Int) : veqs (idK a) (idK b) = decide (a = b):=by simp [idK,veqs,veq]
theorem mfind_idM (n : Int) : ∀ (l : List Int) (i : Nat),(l.any (fun m=>decide (n = m)) = false → mfind (idK n) (idM l) i = none) ∧ (l.any (fun m=>decide (n = m)) = true → ∃ j,mfind (idK n) (idM l) i = some (j,.bool true))
 | [],i=>⟨fun _=>rfl,fun h=>by cases h⟩
 | a :: l,i=>by
  obtain ⟨h1,h2⟩:=mfind_idM n l (i + 1)
  show ((a :: l).any _ = false → (if veqs (idK n) (idK a) = true then some (i,Value.bool true) else mfind (idK n) (idM l) (i + 1)) = none) ∧ ((a :: l).any _ = true → ∃ j,(if veqs (idK n) (idK a) = true then some (i,Value.bool true) else mfind (idK n) (idM l) (i + 1)) = some (j,.bool true))
  rw [idK_eq,List.any_cons]
  by_cases hna : n = a
  ·rw [decide_eq_true hna]; exact ⟨fun h=>by simp at h,fun _=>⟨i,rfl⟩⟩
  ·rw [decide_eq_false hna]
   simp only [Bool.false_or,Bool.false_eq_true,if_false]
   exact ⟨h1,h2⟩
theorem mget_idM (n : Int) (l : List Int) : mgetV (idK n) (idM l) (.bool false) = .bool (l.any fun m=>decide (n = m)):=by
 unfold mgetV
 cases h : l.any (fun m=>decide (n = m)) with
 | false=>rw [(mfind_idM n l 0).1 h]
 | true=>obtain ⟨j,hj⟩:=(mfind_idM n l 0).2 h; rw [hj]
theorem mset_idM (n : Int) (l : List Int) (h : l.any (fun m=>decide (n = m)) = false) : mset (idK n) (.bool true) (idM l) = idM (l ++ [n]):=by
 rw [mset_none ((mfind_idM n l 0).1 h)]; simp [idM]
theorem idM_keys (l : List Int) : MKeys [some .i64] (idM l):=fun m hm=>by
 obtain ⟨n,_,rfl⟩:=List.mem_map.1 hm; rfl
def idsE (l : List En) : List Int:=l.map En.id
theorem newE_any (acc : List En) (e : En) : newE acc e = (vE e && !((idsE acc).any fun m=>decide (e.id = m))):=by
 unfold newE idsE
 congr 1
 rw [List.any_map,Bool.eq_iff_iff]
 simp only [List.all_eq_true,Bool.not_eq_true',decide_eq_false_iff_not,List.any_eq_false,Function.comp]
 constructor
 ·intro h x hx; have:=h x hx; simpa using fun e=>this e.symm
 ·intro h x hx e; have:=h x hx; simp [e] at this
theorem fltI_in (l : List En) (i : Nat) (h : i < l.length) (hn : (vE (l.getD i En.o) && !((idsE (fltI l i)).any fun m=>decide ((l.getD i En.o).id = m))) = true) :
  fltI l (i + 1) = fltI l i ++ [l.getD i En.o] ∧ idsE (fltI l (i + 1)) = idsE (fltI l i) ++ [(l.getD i En.o).id]:=by
 have h1 : fltI l (i + 1) = fltI l i ++ [l.getD i En.o]:=by rw [fltI_next l i h]; unfold addE; rw [newE_any,hn,if_pos rfl]
 exact ⟨h1,by rw [h1]; simp [idsE]⟩
theorem fltI_out (l : List En) (i : Nat) (h : i < l.length) (hn : (vE (l.getD i En.o) && !((idsE (fltI l i)).any fun m=>decide ((l.getD i En.o).id = m))) = false) : fltI l (i + 1) = fltI l i:=by
 rw [fltI_next l i h]; unfold addE; rw [newE_any,hn,if_neg (by decide)]
end Go.Carom
/-
 The sweep over sorted entries: the pairs it meets. Conditions: none.
-/
namespace Go.Carom
open Go.RowKit Go.AL
def ovl (a b : En) : Bool:=((decide (a.x ≤ b.u) && decide (b.x ≤ a.u)) && decide (a.y ≤ b.w)) && decide (b.y ≤ a.w)
def ovE (a b : En) : Bool:=(vE a && vE b) && ovl a b
def mkP (a b : En) : P2:=⟨if b.id < a.id then b.id else a.id,if a.id < b.id then b.id else a.id⟩
def runE (a : En) (r : List En) : List En:=r.takeWhile fun b=>!decide (a.u < b.x)
def prK (a : En) (r : List En) (k : Nat) : List P2:=(((runE a r).take k).filter (ovE a)).map (mkP a)
def prI (l : List En) : Nat → List P2
 | 0=>[]
 | i + 1=>prI l i ++ prK (l.getD i En.o) (l.drop (i + 1)) (runE (l.getD i En.o) (l.drop (i + 1))).length
def pairsR (l : List En) : List P2:=prI l l.length
def pairsE (l : List En) : List P2:=(pairsR (sortE l)).mergeSort fun x y=>!p2l y x
theorem tw_len {α : Type} (p : α → Bool) : ∀ l : List α,(l.takeWhile p).length ≤ l.length
 | []=>Nat.le_refl _
 | a :: r=>by
  rw [List.takeWhile_cons]
  split
  ·have:=tw_len p r; simp; omega
  ·simp
theorem tw_getD {α : Type} (p : α → Bool) (d : α) : ∀ (l : List α) (j : Nat),j < (l.takeWhile p).length → (l.takeWhile p).getD j d = l.getD j d ∧ p (l.getD j d) = true
 | [],j,h=>by simp at h
 | a :: r,j,h=>by
  rw [List.takeWhile_cons] at h ⊢
  cases hp : p a with
  | false=>rw [hp] at h; simp at h
  | true=>
   rw [hp] at h
   simp only [if_true] at h ⊢
   cases j with
   | zero=>exact ⟨rfl,hp⟩
   | succ j=>
    have:=tw_getD p d r j (by simpa using h)
    simpa using this
theorem tw_end {α : Type} (p : α → Bool) (d : α) : ∀ (l : List α),(l.takeWhile p).length < l.length → p (l.getD (l.takeWhile p).length d) = false
 | [],h=>by simp at h
 | a :: r,h=>by
  rw [List.takeWhile_cons] at h ⊢
  cases hp : p a with
  | false=>rw [if_neg (by decide)]; exact hp
  | true=>
   rw [hp] at h
   simp only [if_true] at h ⊢
   have:=tw_end p d r (by simpa using h)
   simpa using this
theorem run_le (a : En) (r : List En) : (runE a r).length ≤ r.length:=tw_len _ _
theorem rn_in {a : En} {r : List En} {j : Nat} (h : j < (runE a r).length) : decide (a.u < (r.getD j En.o).x) = false:=by
 have:=(tw_getD (fun b : En=>!decide (a.u < b.x)) En.o r j h).2
 simpa using this
theorem run_end {a : En} {r : List En} (h : (runE a r).length < r.length) : decide (a.u < (r.getD (runE a r).length En.o).x) = true:=by
 have:=tw_end (fun b : En=>!decide (a.u < b.x)) En.o r h
 simpa [runE] using this
theorem prK_next {a : En} {r : List En} {j : Nat} (h : j < (runE a r).length) : prK a r (j + 1) = prK a r j ++ (if ovE a (r.getD j En.o) then [mkP a (r.getD j En.o)] else []):=by
 have hg:=(tw_getD (fun b : En=>!decide (a.u < b.x)) En.o r j h).1
 unfold prK
 rw [take_succ_getD _ En.o h,show (runE a r).getD j En.o = r.getD j En.o from hg,List.filter_append,List.map_append]
 congr 1
 generalize r.getD j En.o = c
 by_cases ho : ovE a c = true
 ·rw [if_pos ho]; simp [List.filter,ho]
 ·rw [if_neg ho]; simp [List.filter,ho]
theorem prK_in {a : En} {r : List En} {j : Nat} (h : j < (runE a r).length) (ho : ovE a (r.getD j En.o) = true) : prK a r (j + 1) = prK a r j ++ [mkP a (r.getD j En.o)]:=by rw [prK_next h,if_pos ho]
theorem prK_out {a : En} {r : List En} {j : Nat} (h : j < (runE a r).length) (ho : ovE a (r.getD j En.o) = false) : prK a r (j + 1) = prK a r j:=by rw [prK_next h,if_neg (by rw [ho]; decide),List.append_nil]
theorem prK_len (a : En) (r : List En) (k : Nat) : (prK a r k).length ≤ r.length:=by
 unfold prK
 rw [List.length_map]
 refine Nat.le_trans (List.length_filter_le _ _) (Nat.le_trans ?_ (run_le a r))
 rw [List.length_take]; omega
theorem prI_next (l : List En) (i : Nat) : prI l (i + 1) = prI l i ++ prK (l.getD i En.o) (l.drop (i + 1)) (runE (l.getD i En.o) (l.drop (i + 1))).length:=rfl
theorem prI_len (l : List En) : ∀ i,(prI l i).length ≤ i * l.length
 | 0=>by simp [prI]
 | i + 1=>by
  have h1:=prI_len l i
  have h2:=prK_len (l.getD i En.o) (l.drop (i + 1)) (runE (l.getD i En.o) (l.drop (i + 1))).length
  rw [prI_next,List.length_append,Nat.succ_mul]
  have h3 : (l.drop (i + 1)).length ≤ l.length:=by simp
  omega
theorem prIK_len (l : List En) (i k : Nat) (hi : i ≤ l.length) (hl : l.length ≤ 1000) : (prI l i ++ prK (l.getD i En.o) (l.drop (i + 1)) k).length ≤ 1001000:=by
 have h1:=prI_len l i
 have h2:=prK_len (l.getD i En.o) (l.drop (i + 1)) k
 have h3 : (l.drop (i + 1)).length ≤ l.length:=by simp
 have h4 : i * l.length ≤ 1000 * 1000:=Nat.mul_le_mul (by omega) hl
 rw [List.length_append]; omega
theorem pairsR_len (l : List En) (hl : l.length ≤ 1000) : (pairsR l).length ≤ 1000000:=by
 have h1:=prI_len l l.length
 have h4 : l.length * l.length ≤ 1000 * 1000:=Nat.mul_le_mul hl hl
 unfold pairsR; omega
theorem sortE_len (l : List En) : (sortE l).length ≤ l.length:=by
 unfold sortE
 rw [List.length_mergeSort,← fltI_all]
 exact fltI_len l _
theorem p2_tri (a b : P2) (h1 : p2l a b = false) (h2 : p2l b a = false) : a = b:=by
 obtain ⟨a1,a2⟩:=a
 obtain ⟨b1,b2⟩:=b
 simp [p2l] at h1 h2
 have : a1 = b1:=by omega
 subst this
 have : a2 = b2:=by omega
 subst this
 rfl
end Go.Carom
/-
 The greatest number of entries over one place. Conditions: none.
-/
namespace Go.Carom
open Go.RowKit Go.AL
end Go.Carom
/-
 The reference's filter and its insertion. Conditions: none.
-/
namespace Go.Carom
open Go.RowKit Go.AL
end Go.Carom
/-
 The same entries in another order; the pairs of the sweep are told apart. Conditions: none.
-/
namespace Go.Carom
open Go.RowKit Go.AL
theorem mem_getD {l : List En} {x : En} : x ∈ l ↔ ∃ j,j < l.length ∧ l.getD j En.o = x:=by
 constructor
 ·intro h
  obtain ⟨j,hj,he⟩:=List.mem_iff_getElem.1 h
  exact ⟨j,hj,by rw [List.getD_eq_getElem?_getD,List.getElem?_eq_getElem hj]; exact he⟩
 ·rintro ⟨j,hj,rfl⟩
  exact getD_mem hj
theorem DistE.at {l : List En} (h : DistE l) {i j : Nat} (hi : i < l.length) (hj : j < l.length) (he : (l.getD i En.o).id = (l.getD j En.o).id) : i = j:=by
 have hg : ∀ k (hk : k < l.length),l.getD k En.o = l[k]:=fun k hk=>by rw [List.getD_eq_getElem?_getD,List.getElem?_eq_getElem hk]; rfl
 rw [hg i hi,hg j hj] at he
 have hp:=List.pairwise_iff_getElem.1 h
 rcases Nat.lt_trichotomy i j with hlt|rfl|hlt
 ·exact absurd he (hp i j hi hj hlt)
 ·rfl
 ·exact absurd he.symm (hp j i hj hi hlt)
end Go.Carom
/-
 What the pairs of the sweep are,and how often each is met. Conditions: none.
-/
namespace Go.Carom
open Go.RowKit Go.AL
theorem mem_prK {a : En} {r : List En} {k : Nat} {p : P2} (h : p ∈ prK a r k) : ∃ j,j < r.length ∧ ovE a (r.getD j En.o) = true ∧ p = mkP a (r.getD j En.o):=by
 obtain ⟨b,hb,rfl⟩:=List.mem_map.1 h
 obtain ⟨hb1,hb2⟩:=List.mem_filter.1 hb
 have hr : b ∈ r:=(List.takeWhile_sublist _).subset (List.mem_of_mem_take hb1)
 obtain ⟨j,hj,rfl⟩:=mem_getD.1 hr
 exact ⟨j,hj,hb2,rfl⟩
theorem mem_prI {l : List En} {p : P2} : ∀ i,i ≤ l.length → p ∈ prI l i → ∃ a b,a < i ∧ a < b ∧ b < l.length ∧ ovE (l.getD a En.o) (l.getD b En.o) = true ∧ p = mkP (l.getD a En.o) (l.getD b En.o)
 | 0,_,h=>by cases h
 | i + 1,hi,h=>by
  rw [prI_next] at h
  rcases List.mem_append.1 h with h|h
  ·obtain ⟨a,b,h1,h2⟩:=mem_prI i (by omega) h
   exact ⟨a,b,by omega,h2⟩
  ·obtain ⟨j,hj,h1,h2⟩:=mem_prK h
   have hg : (l.drop (i + 1)).getD j En.o = l.getD (i + 1 + j) En.o:=by
    rw [List.getD_eq_getElem?_getD,List.getElem?_drop,List.getD_eq_getElem?_getD]
   rw [hg] at h1 h2
   rw [List.length_drop] at hj
   exact ⟨i,i + 1 + j,by omega,by omega,by omega,h1,h2⟩
theorem mkP_ids {a b c d : En} (h : mkP a b = mkP c d) : (a.id = c.id ∧ b.id = d.id) ∨ (a.id = d.id ∧ b.id = c.id):=by
 unfold mkP at h
 injection h with h1 h2
 repeat' (split at h1)
 all_goals (repeat' (split at h2))
 all_goals omega
theorem mkP_at {l : List En} (hd : DistE l) {a b c d : Nat} (hab : a < b) (hb : b < l.length) (hcd : c < d) (hd' : d < l.length) (h : mkP (l.getD a En.o) (l.getD b En.o) = mkP (l.getD c En.o) (l.getD d En.o)) : a = c ∧ b = d:=by
 rcases mkP_ids h with ⟨h1,h2⟩|⟨h1,h2⟩
 ·exact ⟨hd.at (by omega) (by omega) h1,hd.at hb hd' h2⟩
 ·have:=hd.at (by omega) hd' h1
  have:=hd.at hb (by omega) h2
  omega
theorem prK_nodup {a : En} {r : List En} {k : Nat} (hd : DistE r) : (prK a r k).Nodup:=by
 unfold prK
 refine List.pairwise_map.2 ?_
 have hs : ((runE a r).take k).filter (ovE a) |>.Sublist r:=(List.filter_sublist).trans ((List.take_sublist _ _).trans (List.takeWhile_sublist _))
 refine (List.Pairwise.sublist hs hd).imp ?_
 intro b c hne he
 rcases mkP_ids he with ⟨_,h2⟩|⟨h1,h2⟩
 ·exact hne h2
 ·exact hne (by omega)
theorem prI_nodup {l : List En} (hd : DistE l) : ∀ i,i ≤ l.length → (prI l i).Nodup
 | 0,_=>List.nodup_nil
 | i + 1,hi=>by
  rw [prI_next]
  refine List.nodup_append.2 ⟨prI_nodup hd i (by omega),prK_nodup (List.Pairwise.sublist (List.drop_sublist _ _) hd),?_⟩
  intro p hp q hq he
  subst he
  obtain ⟨a,b,h1,h2,h3,_,h4⟩:=mem_prI i (by omega) hp
  obtain ⟨j,hj,_,h5⟩:=mem_prK hq
  have hg : (l.drop (i + 1)).getD j En.o = l.getD (i + 1 + j) En.o:=by
   rw [List.getD_eq_getElem?_getD,List.getElem?_drop,List.getD_eq_getElem?_getD]
  rw [hg] at h5
  rw [List.length_drop] at hj
  have:=mkP_at hd h2 h3 (c:=i) (d:=i + 1 + j) (by omega) (by omega) (h4.symm.trans h5)
  omega
theorem sortE_dist (l : List En) : DistE (sortE l):=by
 refine List.Pairwise.imp_of_mem ?_ (sortE_SS l).1
 intro a b ha hb h he
 have:=(flt_dist l).inj a ((sortE_SS l).2 a |>.1 ha) b ((sortE_SS l).2 b |>.1 hb) he
 subst this
 rw [enl_SO.irr] at h; cases h
theorem pairsE_SS (l : List En) : SS p2l (pairsE l) ∧ ∀ x,x ∈ pairsE l ↔ x ∈ pairsR (sortE l):=ss_mergeSort p2l_STO (prI_nodup (sortE_dist l) _ (Nat.le_refl _))
theorem ovE_sym (a b : En) : ovE a b = ovE b a:=by
 unfold ovE ovl
 rw [Bool.and_comm (vE a)]
 congr 1
 rw [Bool.eq_iff_iff]
 simp only [Bool.and_eq_true,decide_eq_true_eq]
 constructor <;> (rintro ⟨⟨⟨h1,h2⟩,h3⟩,h4⟩; exact ⟨⟨⟨h2,h1⟩,h4⟩,h3⟩)
theorem sortE_sub {l : List En} {e : En} (h : e ∈ sortE l) : e ∈ l:=by
 rw [(sortE_SS l).2] at h
 have key : ∀ (l acc : List En),∀ x ∈ l.foldl addE acc,x ∈ acc ∨ x ∈ l:=by
  intro l
  induction l with
  | nil=>intro acc x hx; exact .inl hx
  | cons a r ih=>
   intro acc x hx
   rcases ih _ x hx with h|h
   ·unfold addE at h
    split at h
    ·rcases List.mem_append.1 h with h|h
     ·exact .inl h
     ·rw [List.mem_singleton] at h; exact .inr (by rw [h]; exact List.mem_cons_self)
    ·exact .inl h
   ·exact .inr (List.mem_cons_of_mem _ h)
 rcases key l [] e h with h|h
 ·cases h
 ·exact h
theorem pair_ends {l : List En} {p : P2} (h : p ∈ pairsE l) : p.a < p.b ∧ ∃ a ∈ l,∃ b ∈ l,a.id = p.a ∧ b.id = p.b ∧ ovE a b = true:=by
 rw [(pairsE_SS l).2] at h
 obtain ⟨a,b,h1,h2,h3,h4,h5⟩:=mem_prI _ (Nat.le_refl _) h
 have hne : ((sortE l).getD a En.o).id ≠ ((sortE l).getD b En.o).id:=fun he=>by
  have:=(sortE_dist l).at (by omega) h3 he
  omega
 have ha:=sortE_sub (getD_mem (d:=En.o) (show a < (sortE l).length by omega))
 have hb:=sortE_sub (getD_mem (d:=En.o) h3)
 generalize (sortE l).getD a En.o = x at *
 generalize (sortE l).getD b En.o = y at *
 subst h5
 unfold mkP
 by_cases hlt : y.id < x.id
 ·simp only [if_pos hlt,if_neg (show ¬ x.id < y.id by omega)]
  exact ⟨hlt,y,hb,x,ha,rfl,rfl,by rw [ovE_sym]; exact h4⟩
 ·simp only [if_neg hlt,if_pos (show x.id < y.id by omega)]
  exact ⟨by omega,x,ha,y,hb,rfl,rfl,h4⟩
def eqK (l : List En) (i : Nat) : Nat:=((l.take i).takeWhile fun o=>!decide (o.id = (l.getD i En.o).id)).length
end Go.Carom
/-
 The pairs of the sweep are all pairs of entries whose boxes overlap. Conditions: none; no program in sight.
-/
namespace Go.Carom
open Go.RowKit Go.AL
theorem flt_all {l : List En} (hd : DistE l) : ∀ x,x ∈ flt l ↔ x ∈ l ∧ vE x = true:=by
 have key : ∀ (m acc : List En),DistE (acc ++ m) → (∀ x,x ∈ m.foldl addE (acc.filter vE) ↔ (x ∈ acc ∨ x ∈ m) ∧ vE x = true):=by
  intro m
  induction m with
  | nil=>intro acc _ x; simp
  | cons e m ih=>
   intro acc hd x
   have hd' : DistE (acc ++ [e] ++ m):=by simpa using hd
   have hn : newE (acc.filter vE) e = vE e:=by
    unfold newE
    have : (acc.filter vE).all (fun o=>!decide (o.id = e.id)) = true:=by
     refine List.all_eq_true.2 fun o ho=>?_
     have:=(List.pairwise_append.1 hd).2.2 o (List.mem_filter.1 ho).1 e (List.mem_cons_self ..)
     simpa using this
    rw [this,Bool.and_true]
   have ha : addE (acc.filter vE) e = (acc ++ [e]).filter vE:=by
    unfold addE
    rw [hn,List.filter_append]
    cases h : vE e with
    | true=>simp [List.filter,h]
    | false=>simp [List.filter,h]
   rw [List.foldl_cons,ha,ih (acc ++ [e]) hd' x]
   simp [or_assoc]
 intro x
 have:=key l [] (by simpa using hd) x
 simpa [flt] using this
theorem mem_sortE {l : List En} (hd : DistE l) (x : En) : x ∈ sortE l ↔ x ∈ l ∧ vE x = true:=by rw [(sortE_SS l).2,flt_all hd]
theorem tw_mem {α : Type} {p : α → Bool} {d : α} : ∀ {l : List α} {j : Nat},j < l.length → (∀ i,i ≤ j → p (l.getD i d) = true) → l.getD j d ∈ l.takeWhile p
 | [],j,h,_=>by simp at h
 | a :: r,j,h,hp=>by
  have h0 : p a = true:=hp 0 (Nat.zero_le _)
  rw [List.takeWhile_cons,if_pos h0]
  cases j with
  | zero=>exact List.mem_cons_self ..
  | succ j=>
   refine List.mem_cons_of_mem _ ?_
   exact tw_mem (l:=r) (j:=j) (by simpa using h) (fun i hi=>hp (i + 1) (by omega))
theorem prI_mono {l : List En} {p : P2} {i : Nat} : ∀ {k : Nat}, i ≤ k → p ∈ prI l i → p ∈ prI l k
  | 0, h, hp => by have : i = 0 := by omega
                   subst this; exact hp
  | k + 1, h, hp => by
    by_cases e : i = k + 1
    · subst e; exact hp
    · rw [prI_next]; exact List.mem_append_left _ (prI_mono (by omega) hp)
theorem SS.at {l : List En} (h : SS enl l) {i j : Nat} (hij : i < j) (hj : j < l.length) : enl (l.getD i En.o) (l.getD j En.o) = true:=by
 have hg : ∀ k (hk : k < l.length),l.getD k En.o = l[k]:=fun k hk=>by rw [List.getD_eq_getElem?_getD,List.getElem?_eq_getElem hk]; rfl
 rw [hg i (by omega),hg j hj]
 exact List.pairwise_iff_getElem.1 h i j (by omega) hj hij
theorem prI_all {l : List En} (hs : SS enl l) {a b : Nat} (hab : a < b) (hb : b < l.length) (ho : ovE (l.getD a En.o) (l.getD b En.o) = true) : mkP (l.getD a En.o) (l.getD b En.o) ∈ prI l l.length:=by
 refine prI_mono (i:=a + 1) (by omega) ?_
 rw [prI_next]
 refine List.mem_append_right _ ?_
 unfold prK
 refine List.mem_map.2 ⟨l.getD b En.o,List.mem_filter.2 ⟨?_,ho⟩,rfl⟩
 rw [List.take_length]
 have hg : ∀ k,(l.drop (a + 1)).getD k En.o = l.getD (a + 1 + k) En.o:=fun k=>by rw [List.getD_eq_getElem?_getD,List.getElem?_drop,List.getD_eq_getElem?_getD]
 have e : l.getD b En.o = (l.drop (a + 1)).getD (b - (a + 1)) En.o:=by rw [hg]; congr 1; omega
 rw [e]
 unfold runE
 refine tw_mem (by rw [List.length_drop]; omega) fun i hi=>?_
 rw [hg]
 have hx : (l.getD (a + 1 + i) En.o).x ≤ (l.getD b En.o).x:=by
  by_cases hc : a + 1 + i = b
  ·rw [hc]; exact Int.le_refl _
  ·have:=hs.at (i:=a + 1 + i) (j:=b) (by omega) hb
   rw [enl_iff] at this; omega
 unfold ovE ovl at ho
 simp only [Bool.and_eq_true,decide_eq_true_eq] at ho
 have h9 : (l.getD (a + 1 + i) En.o).x ≤ (l.getD a En.o).u:=by have:=ho.2.1.1.2; omega
 rw [decide_eq_false (by omega)]; rfl
theorem mkP_sym {a b : En} (h : a.id ≠ b.id) : mkP a b = mkP b a:=by
 unfold mkP
 by_cases hlt : a.id < b.id
 ·simp only [if_pos hlt,if_neg (show ¬ b.id < a.id by omega)]
 ·simp only [if_neg hlt,if_pos (show b.id < a.id by omega)]
theorem mem_pairsE {l : List En} (hd : DistE l) (p : P2) : p ∈ pairsE l ↔ p.a < p.b ∧ ∃ a ∈ l,∃ b ∈ l,a.id = p.a ∧ b.id = p.b ∧ ovE a b = true:=by
 refine ⟨pair_ends,?_⟩
 rintro ⟨hlt,a,ha,b,hb,h1,h2,ho⟩
 rw [(pairsE_SS l).2]
 have hv:=ho
 unfold ovE at hv
 simp only [Bool.and_eq_true] at hv
 have hp : p = mkP a b:=by
  unfold mkP
  rw [if_neg (by omega),if_pos (by omega),h1,h2]
 obtain ⟨i,hi,e1⟩:=mem_getD.1 ((mem_sortE hd a).2 ⟨ha,hv.1.1⟩)
 obtain ⟨j,hj,e2⟩:=mem_getD.1 ((mem_sortE hd b).2 ⟨hb,hv.1.2⟩)
 have hne : a.id ≠ b.id:=by omega
 rcases Nat.lt_trichotomy i j with hij|hij|hij
 ·rw [hp,← e1,← e2]
  exact prI_all (sortE_SS l).1 hij hj (by rw [e1,e2]; exact ho)
 ·subst hij; rw [e1] at e2; subst e2; exact absurd rfl hne
 ·rw [hp,mkP_sym hne,← e1,← e2]
  exact prI_all (sortE_SS l).1 hij hi (by rw [e1,e2,ovE_sym]; exact ho)
end Go.Carom
/-
 The plain law of chapter 22: the order of keys. Conditions: none; no program in sight.
-/
namespace Go.Carom
open Go.RowKit Go.AL
theorem cmpI_neg (a b : Int) : cmpI a b < 0 ↔ a < b:=by unfold cmpI; split <;> (try split) <;> omega
theorem cmpI_zero (a b : Int) : cmpI a b = 0 ↔ a = b:=by unfold cmpI; split <;> (try split) <;> omega
theorem orI_neg (x y : Int) : orI x y < 0 ↔ x < 0 ∨ x = 0 ∧ y < 0:=by unfold orI; split <;> omega
def kql (a b : K4) : Bool:=decide (a.a < b.a) || (decide (a.a = b.a) && (decide (a.fa < b.fa) || (decide (a.fa = b.fa) && (decide (a.b < b.b) || (decide (a.b = b.b) && decide (a.fb < b.fb))))))
theorem kql_iff (a b : K4) : kql a b = true ↔ a.a < b.a ∨ a.a = b.a ∧ (a.fa < b.fa ∨ a.fa = b.fa ∧ (a.b < b.b ∨ a.b = b.b ∧ a.fb < b.fb)):=by simp [kql]
theorem kql_neg (a b : K4) : kql a b = false ↔ ¬ (a.a < b.a ∨ a.a = b.a ∧ (a.fa < b.fa ∨ a.fa = b.fa ∧ (a.b < b.b ∨ a.b = b.b ∧ a.fb < b.fb))):=by rw [← kql_iff,Bool.not_eq_true]
def cmpQ (a b : K4) : Int:=orI (cmpI a.a b.a) (orI (cmpI a.fa b.fa) (orI (cmpI a.b b.b) (cmpI a.fb b.fb)))
theorem cmpQ_lt (a b : K4) : decide (cmpQ a b < 0) = kql a b:=by
 rw [Bool.eq_iff_iff,kql_iff,decide_eq_true_eq]
 unfold cmpQ
 simp only [orI_neg,cmpI_neg,cmpI_zero]
theorem K4.mk_eq {a b : K4} (h : a.a = b.a ∧ a.fa = b.fa ∧ a.b = b.b ∧ a.fb = b.fb) : a = b:=by
 cases a; cases b; simp at h; obtain ⟨rfl,rfl,rfl,rfl⟩:=h; rfl
theorem kql_STO : STO kql:=by
 refine ⟨fun a=>?_,fun a b c h1 h2=>?_,fun a b h1 h2=>?_⟩
 ·rw [kql_neg]; omega
 ·rw [kql_iff] at *; omega
 ·rw [kql_neg] at h1 h2
  exact K4.mk_eq (by omega)
def K4.eqb (x k : K4) : Bool:=decide (x.a = k.a) && (decide (x.fa = k.fa) && (decide (x.b = k.b) && decide (x.fb = k.fb)))
theorem K4.eqb_iff (x k : K4) : x.eqb k = true ↔ x = k:=by cases x; cases k; simp [K4.eqb]
theorem K4.eqb_refl (x : K4) : x.eqb x = true:=(K4.eqb_iff x x).2 rfl
def kval (k : K4) : Bool:=(((decide (k.a < k.b) && decide (0 ≤ k.fa)) && decide (k.fa < 4)) && decide (0 ≤ k.fb)) && decide (k.fb < 4)
def kvI (l : List K4) (i : Nat) : Bool:=kval (l.getD i K4.o) && (decide (i = 0) || kql (l.getD (i - 1) K4.o) (l.getD i K4.o))
def kvs (l : List K4) : Bool:=(List.range l.length).all (kvI l)
theorem k4_at (l : List K4) {i : Nat} (hi : i < l.length) : l.getD i K4.o = l[i]:=by rw [List.getD_eq_getElem?_getD,List.getElem?_eq_getElem hi]; rfl
theorem kvs_of {l : List K4} (hs : SS kql l) (hv : ∀ k ∈ l,kval k = true) : kvs l = true:=by
 refine List.all_eq_true.2 fun i hi=>?_
 have hi':=List.mem_range.1 hi
 unfold kvI
 rw [hv _ (getD_mem hi'),Bool.true_and]
 by_cases h0 : i = 0
 ·simp [h0]
 ·have h1:=List.pairwise_iff_getElem.1 hs (i - 1) i (by omega) hi' (by omega)
  rw [k4_at l hi',k4_at l (show i - 1 < l.length by omega),h1,Bool.or_true]
def insK (x : K4) (l : List K4) : List K4:=insS kql x l
def insL (l : List K4) : List K4:=l.foldl (fun acc x=>insS kql x acc) []
theorem insL_snoc (l : List K4) (x : K4) : insL (l ++ [x]) = insK x (insL l):=by unfold insL insK; rw [List.foldl_append]; rfl
theorem insK_len (x : K4) (l : List K4) : (insK x l).length = l.length + 1:=by
 unfold insK insS
 have h:=congrArg List.length (List.takeWhile_append_dropWhile (p:=fun y=>kql y x) (l:=l))
 rw [List.length_append] at h
 rw [List.length_append,List.length_cons]; omega
theorem insL_len : ∀ l : List K4,(insL l).length = l.length:=by
 intro l
 have key : ∀ (m acc : List K4),(m.foldl (fun acc x=>insS kql x acc) acc).length = acc.length + m.length:=by
  intro m
  induction m with
  | nil=>intro acc; rfl
  | cons x m ih=>intro acc; rw [List.foldl_cons,ih,show (insS kql x acc).length = acc.length + 1 from insK_len x acc,List.length_cons]; omega
 have:=key l []
 simpa [insL] using this
theorem insL_SS {l : List K4} (hn : l.Nodup) : SS kql (insL l) ∧ ∀ x,x ∈ insL l ↔ x ∈ l:=by
 have key : ∀ (m acc : List K4),(acc ++ m).Nodup → ∀ s : List K4,SS kql s → (∀ x,x ∈ s ↔ x ∈ acc) → SS kql (m.foldl (fun acc x=>insS kql x acc) s) ∧ ∀ x,x ∈ m.foldl (fun acc x=>insS kql x acc) s ↔ x ∈ acc ++ m:=by
  intro m
  induction m with
  | nil=>intro acc _ s hs hm; simpa using ⟨hs,hm⟩
  | cons e m ih=>
   intro acc hd s hs hm
   have hd' : (acc ++ [e] ++ m).Nodup:=by simpa using hd
   have hne : e ∉ s:=fun he=>by
    have:=(List.nodup_append.1 hd).2.2 e ((hm e).1 he) e (List.mem_cons_self ..)
    exact this rfl
   obtain ⟨h1,h2⟩:=ih (acc ++ [e]) hd' (insS kql e s) (SS.insS kql_STO hs hne) (fun x=>by rw [mem_insS,hm]; simp [or_comm])
   refine ⟨h1,fun x=>?_⟩
   rw [List.foldl_cons,h2]; simp
 have:=key l [] (by simpa using hn) [] List.Pairwise.nil (fun x=>Iff.rfl)
 simpa [insL] using this
theorem sortK_SS {l : List K4} (hn : l.Nodup) : SS kql (l.mergeSort fun x y=>!kql y x) ∧ ∀ x,x ∈ (l.mergeSort fun x y=>!kql y x) ↔ x ∈ l:=ss_mergeSort kql_STO hn
end Go.Carom
/-
 The plain law of chapter 22: the pairs that the program finds are those of the reference. Conditions: none; no program in sight.
-/
namespace Go.Carom
open Go.RowKit Go.AL
def bxQ (b : Bd) (f : Fx) : Q4:=boxR (core f.k f.r f.vs b.px b.py b.an) f.r
def pxQ (b : Bd) (f : Fx) : Q4:=bexp (bxQ b f).a (bxQ b f).b (bxQ b f).c (bxQ b f).d 1024
def ovQ (x y : Q4) : Bool:=boverlaps x.a x.b x.c x.d y.a y.b y.c y.d
def bdA (bs : List Bd) (r : P2) : Bd:=bs.getD r.a.toNat Bd.o
def fxA (bs : List Bd) (r : P2) : Fx:=(bdA bs r).fs.getD r.b.toNat Fx.o
def enQ (n : Nat) (q : Q4) : En:=⟨(n : Int),q.a,q.b,q.c,q.d⟩
def enR (bs : List Bd) (x : P2 × Nat) : En:=enQ x.2 (pxQ (bdA bs x.1) (fxA bs x.1))
def ents (bs : List Bd) (l : List P2) : List En:=l.zipIdx.map (enR bs)
theorem ents_snoc (bs : List Bd) (l : List P2) (r : P2) : ents bs (l ++ [r]) = ents bs l ++ [enR bs (r,l.length)]:=by simp [ents,List.zipIdx_append]
theorem ents_len (bs : List Bd) (l : List P2) : (ents bs l).length = l.length:=by simp [ents]
theorem mem_ents {bs : List Bd} {l : List P2} {e : En} : e ∈ ents bs l ↔ ∃ n,n < l.length ∧ e = enR bs (l.getD n P2.o,n):=by
 unfold ents
 rw [List.mem_map]
 constructor
 ·rintro ⟨⟨r,n⟩,h,rfl⟩
  have h':=List.mem_zipIdx h
  refine ⟨n,by omega,?_⟩
  have e : l.getD n P2.o = r:=by rw [List.getD_eq_getElem?_getD,List.getElem?_eq_getElem (by omega)]; exact h'.2.2.symm
  rw [e]
 ·rintro ⟨n,h,rfl⟩
  refine ⟨(l.getD n P2.o,n),?_,rfl⟩
  rw [List.mem_zipIdx_iff_getElem?,List.getD_eq_getElem?_getD,List.getElem?_eq_getElem h]
  rfl
theorem ents_dist (bs : List Bd) (l : List P2) : DistE (ents bs l):=by
 unfold ents DistE
 refine List.pairwise_map.2 ?_
 have h : (l.zipIdx.map Prod.snd).Pairwise (· < ·):=by
  rw [List.zipIdx_map_snd]
  exact List.pairwise_lt_range'
 refine (List.pairwise_map.1 h).imp ?_
 intro a b hab he
 have : (a.2 : Int) = (b.2 : Int):=he
 omega
def idsK (bs : List Bd) : Nat → List Int
 | 0=>[]
 | k + 1=>if (idsK bs k).any (fun m=>decide ((bs.getD k Bd.o).id = m)) = true then idsK bs k else idsK bs k ++ [(bs.getD k Bd.o).id]
def seenB (bs : List Bd) (k : Nat) : Bool:=(idsK bs k).any fun m=>decide ((bs.getD k Bd.o).id = m)
theorem idsK_in {bs : List Bd} {k : Nat} (h : seenB bs k = true) : idsK bs (k + 1) = idsK bs k:=if_pos h
theorem idsK_out {bs : List Bd} {k : Nat} (h : seenB bs k = false) : idsK bs (k + 1) = idsK bs k ++ [(bs.getD k Bd.o).id]:=if_neg (by show ¬ seenB bs k = true; rw [h]; decide)
theorem mem_idsK (bs : List Bd) (m : Int) : ∀ k,m ∈ idsK bs k ↔ ∃ j,j < k ∧ (bs.getD j Bd.o).id = m
 | 0=>by simp [idsK]
 | k + 1=>by
  have ih:=mem_idsK bs m k
  cases h : seenB bs k with
  | true=>
   rw [idsK_in h,ih]
   constructor
   ·rintro ⟨j,hj,e⟩; exact ⟨j,by omega,e⟩
   ·rintro ⟨j,hj,e⟩
    by_cases hjk : j = k
    ·subst hjk
     unfold seenB at h
     obtain ⟨x,hx,hd⟩:=List.any_eq_true.1 h
     have hd:=of_decide_eq_true hd
     exact ih.1 (by rw [← e,hd]; exact hx)
    ·exact ⟨j,by omega,e⟩
  | false=>
   rw [idsK_out h,List.mem_append,ih,List.mem_singleton]
   constructor
   ·rintro (⟨j,hj,e⟩|e)
    ·exact ⟨j,by omega,e⟩
    ·exact ⟨k,by omega,e.symm⟩
   ·rintro ⟨j,hj,e⟩
    by_cases hjk : j = k
    ·subst hjk; exact .inr e.symm
    ·exact .inl ⟨j,by omega,e⟩
def frst (bs : List Bd) (i : Nat) : Bool:=(List.range i).all fun k=>!decide ((bs.getD k Bd.o).id = (bs.getD i Bd.o).id)
theorem frst_iff (bs : List Bd) (i : Nat) : frst bs i = true ↔ ∀ k,k < i → (bs.getD k Bd.o).id ≠ (bs.getD i Bd.o).id:=by
 unfold frst
 rw [List.all_eq_true]
 constructor
 ·intro h k hk; simpa using h k (List.mem_range.2 hk)
 ·intro h k hk; simpa using h k (List.mem_range.1 hk)
theorem seen_frst (bs : List Bd) (k : Nat) : seenB bs k = !frst bs k:=by
 have : seenB bs k = true ↔ ¬ frst bs k = true:=by
  rw [frst_iff]
  unfold seenB
  rw [List.any_eq_true]
  constructor
  ·rintro ⟨m,hm,hd⟩ h
   obtain ⟨j,hj,e⟩:=(mem_idsK bs m k).1 hm
   exact h j hj (e.trans (of_decide_eq_true hd).symm)
  ·intro h
   obtain ⟨j,hj⟩:=Classical.not_forall.1 h
   obtain ⟨hjk,e⟩:=Classical.not_imp.1 hj
   have e:=Classical.not_not.1 e
   exact ⟨_,(mem_idsK bs _ k).2 ⟨j,hjk,rfl⟩,decide_eq_true e.symm⟩
 cases h : frst bs k with
 | true=>cases h2 : seenB bs k with
  | true=>exact absurd h (this.1 h2)
  | false=>rfl
 | false=>exact this.2 (by rw [h]; decide)
theorem frst_inj {bs : List Bd} {i j : Nat} (hi : frst bs i = true) (hj : frst bs j = true) (h : (bs.getD i Bd.o).id = (bs.getD j Bd.o).id) : i = j:=by
 rw [frst_iff] at hi hj
 rcases Nat.lt_trichotomy i j with hlt|e|hlt
 ·exact absurd h (hj i hlt)
 ·exact e
 ·exact absurd h.symm (hi j hlt)
def rfJ (acc : List P2) (k j : Nat) : List P2:=acc ++ (List.range j).map fun i=>⟨(k : Int),(i : Int)⟩
def rfK (bs : List Bd) : Nat → List P2
 | 0=>[]
 | k + 1=>if seenB bs k = true then rfK bs k else rfJ (rfK bs k) k (bs.getD k Bd.o).fs.length
theorem rfJ_zero (acc : List P2) (k : Nat) : rfJ acc k 0 = acc:=by simp [rfJ]
theorem rfJ_next (acc : List P2) (k j : Nat) : rfJ acc k (j + 1) = rfJ acc k j ++ [⟨(k : Int),(j : Int)⟩]:=by simp [rfJ,List.range_succ]
theorem rfK_in {bs : List Bd} {k : Nat} (h : seenB bs k = true) : rfK bs (k + 1) = rfK bs k:=if_pos h
theorem rfK_out {bs : List Bd} {k : Nat} (h : seenB bs k = false) : rfK bs (k + 1) = rfJ (rfK bs k) k (bs.getD k Bd.o).fs.length:=if_neg (by rw [h]; decide)
theorem mem_rfK (bs : List Bd) (r : P2) : ∀ n,r ∈ rfK bs n ↔ ∃ k i : Nat,k < n ∧ frst bs k = true ∧ i < (bs.getD k Bd.o).fs.length ∧ r = ⟨(k : Int),(i : Int)⟩
 | 0=>by simp [rfK]
 | n + 1=>by
  have ih:=mem_rfK bs r n
  cases h : seenB bs n with
  | true=>
   rw [rfK_in h,ih]
   constructor
   ·rintro ⟨k,i,hk,h1⟩; exact ⟨k,i,by omega,h1⟩
   ·rintro ⟨k,i,hk,hf,h1⟩
    by_cases hkn : k = n
    ·subst hkn; rw [seen_frst,hf] at h; cases h
    ·exact ⟨k,i,by omega,hf,h1⟩
  | false=>
   have hf : frst bs n = true:=by rw [seen_frst] at h; simpa using h
   rw [rfK_out h,rfJ,List.mem_append,ih,List.mem_map]
   constructor
   ·rintro (⟨k,i,hk,h1⟩|⟨i,hi,rfl⟩)
    ·exact ⟨k,i,by omega,h1⟩
    ·exact ⟨n,i,by omega,hf,List.mem_range.1 hi,rfl⟩
   ·rintro ⟨k,i,hk,hf',hi,rfl⟩
    by_cases hkn : k = n
    ·subst hkn; exact .inr ⟨i,List.mem_range.2 hi,rfl⟩
    ·exact .inl ⟨k,i,by omega,hf',hi,rfl⟩
theorem rfK_nodup (bs : List Bd) : ∀ n,(rfK bs n).Nodup
 | 0=>List.nodup_nil
 | n + 1=>by
  have ih:=rfK_nodup bs n
  cases h : seenB bs n with
  | true=>rw [rfK_in h]; exact ih
  | false=>
   rw [rfK_out h,rfJ]
   refine List.nodup_append.2 ⟨ih,?_,?_⟩
   ·refine List.pairwise_map.2 (List.nodup_range.imp ?_)
    intro a b hab he
    injection he with _ h2
    exact hab (by omega)
   ·rintro a ha b hb rfl
    obtain ⟨k,i,hk,_,_,e1⟩:=(mem_rfK bs a n).1 ha
    obtain ⟨i',_,e2⟩:=List.mem_map.1 hb
    rw [e1] at e2
    injection e2 with h1 _
    omega
theorem rfK_len {bs : List Bd} {m : Nat} (hf : ∀ b ∈ bs,b.fs.length ≤ m) : ∀ n,n ≤ bs.length → (rfK bs n).length ≤ n * m
 | 0,_=>by simp [rfK]
 | n + 1,h=>by
  have ih:=rfK_len hf n (by omega)
  have hb:=hf _ (getD_mem (l:=bs) (j:=n) (d:=Bd.o) (by omega))
  rw [Nat.succ_mul]
  cases hs : seenB bs n with
  | true=>rw [rfK_in hs]; omega
  | false=>rw [rfK_out hs,rfJ,List.length_append,List.length_map,List.length_range]; omega
theorem nodup_at {l : List P2} (h : l.Nodup) {i j : Nat} (hi : i < l.length) (hj : j < l.length) (he : l.getD i P2.o = l.getD j P2.o) : i = j:=by
 have hg : ∀ k (hk : k < l.length),l.getD k P2.o = l[k]:=fun k hk=>by rw [List.getD_eq_getElem?_getD,List.getElem?_eq_getElem hk]; rfl
 rw [hg i hi,hg j hj] at he
 have hp:=List.pairwise_iff_getElem.1 h
 rcases Nat.lt_trichotomy i j with hlt|e|hlt
 ·exact absurd he (hp i j hi hj hlt)
 ·exact e
 ·exact absurd he.symm (hp j i hj hi hlt)
def refs (bs : List Bd) : List P2:=rfK bs bs.length
def acpP (bs : List Bd) (js : List Jt) (x y : P2) : Bool:=
 (((decide ((bdA bs x).kd = 3) || decide ((bdA bs y).kd = 3)) && !decide (x.a = y.a)) && shd (fxA bs x) (fxA bs y)) && !conn js (bdA bs x).id (bdA bs y).id
def keyP (bs : List Bd) (x y : P2) : K4:=if (bdA bs y).id < (bdA bs x).id then ⟨(bdA bs y).id,y.b,(bdA bs x).id,x.b⟩ else ⟨(bdA bs x).id,x.b,(bdA bs y).id,y.b⟩
def rfA (bs : List Bd) (n : Int) : P2:=(refs bs).getD n.toNat P2.o
def accI (bs : List Bd) (js : List Jt) (p : P2) : Bool:=acpP bs js (rfA bs p.a) (rfA bs p.b)
def keyI (bs : List Bd) (p : P2) : K4:=keyP bs (rfA bs p.a) (rfA bs p.b)
def prsA (bs : List Bd) : List P2:=pairsE (ents bs (refs bs))
def fnd (bs : List Bd) (js : List Jt) (l : List P2) : List K4:=(l.filter (accI bs js)).map (keyI bs)
def fpP (bs : List Bd) (js : List Jt) : List K4:=(fnd bs js (prsA bs)).mergeSort fun x y=>!kql y x
def okQ (a b : Bd) (p q : Nat) : Bool:=shd (a.fs.getD p Fx.o) (b.fs.getD q Fx.o) && ovQ (pxQ a (a.fs.getD p Fx.o)) (pxQ b (b.fs.getD q Fx.o))
def keyQ (a b : Bd) (p q : Nat) : K4:=⟨a.id,(p : Int),b.id,(q : Int)⟩
def kQ (a b : Bd) (p : Nat) : Nat → List K4
 | 0=>[]
 | q + 1=>if okQ a b p q = true then kQ a b p q ++ [keyQ a b p q] else kQ a b p q
def kP (a b : Bd) : Nat → List K4
 | 0=>[]
 | p + 1=>kP a b p ++ kQ a b p b.fs.length
def okB (bs : List Bd) (js : List Jt) (i k : Nat) : Bool:=
 (((!decide ((bs.getD k Bd.o).id ≤ (bs.getD i Bd.o).id) && frst bs i) && frst bs k) && (decide ((bs.getD i Bd.o).kd = 3) || decide ((bs.getD k Bd.o).kd = 3))) && !conn js (bs.getD i Bd.o).id (bs.getD k Bd.o).id
def kB (bs : List Bd) (js : List Jt) (i : Nat) : Nat → List K4
 | 0=>[]
 | k + 1=>if okB bs js i k = true then kB bs js i k ++ kP (bs.getD i Bd.o) (bs.getD k Bd.o) (bs.getD i Bd.o).fs.length else kB bs js i k
def kA (bs : List Bd) (js : List Jt) : Nat → List K4
 | 0=>[]
 | i + 1=>kA bs js i ++ kB bs js i bs.length
def fpR (bs : List Bd) (js : List Jt) : List K4:=insL (kA bs js bs.length)
theorem mem_kQ (a b : Bd) (p : Nat) (x : K4) : ∀ n,x ∈ kQ a b p n ↔ ∃ q,q < n ∧ okQ a b p q = true ∧ x = keyQ a b p q
 | 0=>by simp [kQ]
 | n + 1=>by
  have ih:=mem_kQ a b p x n
  show x ∈ (if okQ a b p n = true then kQ a b p n ++ [keyQ a b p n] else kQ a b p n) ↔ _
  split
  ·rename_i h
   rw [List.mem_append,ih,List.mem_singleton]
   constructor
   ·rintro (⟨q,hq,h1⟩|e)
    ·exact ⟨q,by omega,h1⟩
    ·exact ⟨n,by omega,h,e⟩
   ·rintro ⟨q,hq,h1,e⟩
    by_cases hqn : q = n
    ·subst hqn; exact .inr e
    ·exact .inl ⟨q,by omega,h1,e⟩
  ·rename_i h
   rw [ih]
   constructor
   ·rintro ⟨q,hq,h1⟩; exact ⟨q,by omega,h1⟩
   ·rintro ⟨q,hq,h1,e⟩
    by_cases hqn : q = n
    ·subst hqn; exact absurd h1 h
    ·exact ⟨q,by omega,h1,e⟩
theorem kQ_nodup (a b : Bd) (p : Nat) : ∀ n,(kQ a b p n).Nodup
 | 0=>List.nodup_nil
 | n + 1=>by
  have ih:=kQ_nodup a b p n
  show (if okQ a b p n = true then kQ a b p n ++ [keyQ a b p n] else kQ a b p n).Nodup
  split
  ·refine List.nodup_append.2 ⟨ih,by simp,?_⟩
   rintro x hx y hy rfl
   obtain ⟨q,hq,_,e⟩:=(mem_kQ a b p x n).1 hx
   rw [List.mem_singleton.1 hy] at e
   unfold keyQ at e
   injection e with _ _ _ h4
   omega
  ·exact ih
theorem mem_kP (a b : Bd) (x : K4) : ∀ n,x ∈ kP a b n ↔ ∃ p q,p < n ∧ q < b.fs.length ∧ okQ a b p q = true ∧ x = keyQ a b p q
 | 0=>by simp [kP]
 | n + 1=>by
  have ih:=mem_kP a b x n
  show x ∈ kP a b n ++ kQ a b n b.fs.length ↔ _
  rw [List.mem_append,ih,mem_kQ]
  constructor
  ·rintro (⟨p,q,hp,h1⟩|⟨q,h1⟩)
   ·exact ⟨p,q,by omega,h1⟩
   ·exact ⟨n,q,by omega,h1⟩
  ·rintro ⟨p,q,hp,h1⟩
   by_cases hpn : p = n
   ·subst hpn; exact .inr ⟨q,h1⟩
   ·exact .inl ⟨p,q,by omega,h1⟩
theorem kP_nodup (a b : Bd) : ∀ n,(kP a b n).Nodup
 | 0=>List.nodup_nil
 | n + 1=>by
  refine List.nodup_append.2 ⟨kP_nodup a b n,kQ_nodup a b n _,?_⟩
  rintro x hx y hy rfl
  obtain ⟨p,q,hp,_,_,e⟩:=(mem_kP a b x n).1 hx
  obtain ⟨q',_,_,e'⟩:=(mem_kQ a b n x _).1 hy
  rw [e] at e'
  unfold keyQ at e'
  injection e' with _ h2 _ _
  omega
theorem mem_kB (bs : List Bd) (js : List Jt) (i : Nat) (x : K4) : ∀ n,x ∈ kB bs js i n ↔ ∃ k,k < n ∧ okB bs js i k = true ∧ x ∈ kP (bs.getD i Bd.o) (bs.getD k Bd.o) (bs.getD i Bd.o).fs.length
 | 0=>by simp [kB]
 | n + 1=>by
  have ih:=mem_kB bs js i x n
  show x ∈ (if okB bs js i n = true then kB bs js i n ++ kP (bs.getD i Bd.o) (bs.getD n Bd.o) (bs.getD i Bd.o).fs.length else kB bs js i n) ↔ _
  split
  ·rename_i h
   rw [List.mem_append,ih]
   constructor
   ·rintro (⟨k,hk,h1⟩|h1)
    ·exact ⟨k,by omega,h1⟩
    ·exact ⟨n,by omega,h,h1⟩
   ·rintro ⟨k,hk,h1,h2⟩
    by_cases hkn : k = n
    ·subst hkn; exact .inr h2
    ·exact .inl ⟨k,by omega,h1,h2⟩
  ·rename_i h
   rw [ih]
   constructor
   ·rintro ⟨k,hk,h1⟩; exact ⟨k,by omega,h1⟩
   ·rintro ⟨k,hk,h1,h2⟩
    by_cases hkn : k = n
    ·subst hkn; exact absurd h1 h
    ·exact ⟨k,by omega,h1,h2⟩
theorem okB_iff (bs : List Bd) (js : List Jt) (i k : Nat) : okB bs js i k = true ↔ (bs.getD i Bd.o).id < (bs.getD k Bd.o).id ∧ frst bs i = true ∧ frst bs k = true ∧ ((bs.getD i Bd.o).kd = 3 ∨ (bs.getD k Bd.o).kd = 3) ∧ conn js (bs.getD i Bd.o).id (bs.getD k Bd.o).id = false:=by
 unfold okB
 simp only [Bool.and_eq_true,Bool.or_eq_true,decide_eq_true_eq,Bool.not_eq_true',decide_eq_false_iff_not,Int.not_le,and_assoc]
theorem kB_nodup (bs : List Bd) (js : List Jt) (i : Nat) : ∀ n,(kB bs js i n).Nodup
 | 0=>List.nodup_nil
 | n + 1=>by
  have ih:=kB_nodup bs js i n
  show (if okB bs js i n = true then kB bs js i n ++ kP (bs.getD i Bd.o) (bs.getD n Bd.o) (bs.getD i Bd.o).fs.length else kB bs js i n).Nodup
  split
  ·rename_i h
   refine List.nodup_append.2 ⟨ih,kP_nodup _ _ _,?_⟩
   rintro x hx y hy rfl
   obtain ⟨k,hk,hok,h1⟩:=(mem_kB bs js i x n).1 hx
   obtain ⟨_,_,_,_,_,e1⟩:=(mem_kP _ _ _ _).1 h1
   obtain ⟨_,_,_,_,_,e2⟩:=(mem_kP _ _ _ _).1 hy
   rw [e1] at e2
   unfold keyQ at e2
   injection e2 with _ _ h3 _
   have:=frst_inj ((okB_iff _ _ _ _).1 hok).2.2.1 ((okB_iff _ _ _ _).1 h).2.2.1 h3
   omega
  ·exact ih
theorem mem_kA (bs : List Bd) (js : List Jt) (x : K4) : ∀ n,x ∈ kA bs js n ↔ ∃ i k p q,i < n ∧ k < bs.length ∧ okB bs js i k = true ∧ p < (bs.getD i Bd.o).fs.length ∧ q < (bs.getD k Bd.o).fs.length ∧ okQ (bs.getD i Bd.o) (bs.getD k Bd.o) p q = true ∧ x = keyQ (bs.getD i Bd.o) (bs.getD k Bd.o) p q
 | 0=>by simp [kA]
 | n + 1=>by
  have ih:=mem_kA bs js x n
  show x ∈ kA bs js n ++ kB bs js n bs.length ↔ _
  rw [List.mem_append,ih,mem_kB]
  constructor
  ·rintro (⟨i,k,p,q,hi,h1⟩|⟨k,hk,hok,h1⟩)
   ·exact ⟨i,k,p,q,by omega,h1⟩
   ·obtain ⟨p,q,h2,h3,h4,h5⟩:=(mem_kP _ _ _ _).1 h1
    exact ⟨n,k,p,q,by omega,hk,hok,h2,h3,h4,h5⟩
  ·rintro ⟨i,k,p,q,hi,hk,hok,h2,h3,h4,h5⟩
   by_cases hin : i = n
   ·subst hin; exact .inr ⟨k,hk,hok,(mem_kP _ _ _ _).2 ⟨p,q,h2,h3,h4,h5⟩⟩
   ·exact .inl ⟨i,k,p,q,by omega,hk,hok,h2,h3,h4,h5⟩
theorem kA_nodup (bs : List Bd) (js : List Jt) : ∀ n,(kA bs js n).Nodup
 | 0=>List.nodup_nil
 | n + 1=>by
  refine List.nodup_append.2 ⟨kA_nodup bs js n,kB_nodup bs js n _,?_⟩
  rintro x hx y hy rfl
  obtain ⟨i,k,p,q,hi,_,hok,_,_,_,e1⟩:=(mem_kA bs js x n).1 hx
  obtain ⟨k',_,hok',h1⟩:=(mem_kB _ _ _ _ _).1 hy
  obtain ⟨_,_,_,_,_,e2⟩:=(mem_kP _ _ _ _).1 h1
  rw [e1] at e2
  unfold keyQ at e2
  injection e2 with h1 _ _ _
  have:=frst_inj ((okB_iff _ _ _ _).1 hok).2.1 ((okB_iff _ _ _ _).1 hok').2.1 h1
  omega
theorem shd_sym (a b : Fx) : shd a b = shd b a:=by
 unfold shd
 by_cases h : a.grp = b.grp
 ·by_cases h0 : a.grp = 0
  ·rw [if_neg (by simp [h0]),if_neg (by simp [← h,h0]),Bool.and_comm]
  ·rw [if_pos ⟨h,h0⟩,if_pos ⟨h.symm,by rw [← h]; exact h0⟩,h]
 ·rw [if_neg (by simp [h]),if_neg (by simp [Ne.symm (a:=a.grp) h]),Bool.and_comm]
theorem conn_sym (js : List Jt) (a b : Int) : conn js a b = conn js b a:=by
 unfold conn
 congr 1
 funext j
 unfold jcon
 congr 1
 rw [Bool.eq_iff_iff]
 simp only [Bool.or_eq_true,decide_eq_true_eq]
 constructor <;> (rintro (⟨h1,h2⟩|⟨h1,h2⟩); exact .inr ⟨h2,h1⟩; exact .inl ⟨h2,h1⟩)
theorem ovE_enQ (m n : Nat) (x y : Q4) : ovE (enQ m x) (enQ n y) = ovQ x y:=rfl
theorem ovQ_sym (x y : Q4) : ovQ x y = ovQ y x:=by rw [← ovE_enQ 0 0 x y,ovE_sym]; rfl
theorem mem_prsA (bs : List Bd) (l : List P2) (p : P2) : p ∈ pairsE (ents bs l) ↔ ∃ m n : Nat,m < n ∧ n < l.length ∧ p = ⟨(m : Int),(n : Int)⟩ ∧
  ovQ (pxQ (bdA bs (l.getD m P2.o)) (fxA bs (l.getD m P2.o))) (pxQ (bdA bs (l.getD n P2.o)) (fxA bs (l.getD n P2.o))) = true:=by
 rw [mem_pairsE (ents_dist bs l)]
 constructor
 ·rintro ⟨hlt,a,ha,b,hb,h1,h2,ho⟩
  obtain ⟨m,hm,rfl⟩:=mem_ents.1 ha
  obtain ⟨n,hn,rfl⟩:=mem_ents.1 hb
  have h1 : (m : Int) = p.a:=h1
  have h2 : (n : Int) = p.b:=h2
  exact ⟨m,n,by omega,hn,by cases p; simp at h1 h2; rw [h1,h2],ho⟩
 ·rintro ⟨m,n,hmn,hn,rfl,ho⟩
  exact ⟨by show (m : Int) < n; omega,_,mem_ents.2 ⟨m,by omega,rfl⟩,_,mem_ents.2 ⟨n,hn,rfl⟩,rfl,rfl,ho⟩
theorem prsA_nodup (bs : List Bd) (l : List P2) : (pairsE (ents bs l)).Nodup:=by
 refine (pairsE_SS _).1.imp ?_
 intro a b h he
 subst he
 rw [p2l_STO.irr] at h; cases h
theorem refs_at {bs : List Bd} {n : Nat} (hn : n < (refs bs).length) : ∃ k i : Nat,k < bs.length ∧ frst bs k = true ∧ i < (bs.getD k Bd.o).fs.length ∧ (refs bs).getD n P2.o = ⟨(k : Int),(i : Int)⟩:=
 (mem_rfK bs _ bs.length).1 (getD_mem (d:=P2.o) hn)
theorem refs_of {bs : List Bd} {k i : Nat} (hk : k < bs.length) (hf : frst bs k = true) (hi : i < (bs.getD k Bd.o).fs.length) : ∃ n,n < (refs bs).length ∧ (refs bs).getD n P2.o = ⟨(k : Int),(i : Int)⟩:=by
 have:=(mem_rfK bs ⟨(k : Int),(i : Int)⟩ bs.length).2 ⟨k,i,hk,hf,hi,rfl⟩
 obtain ⟨n,hn,he⟩:=List.mem_iff_getElem.1 this
 exact ⟨n,hn,by show (rfK bs bs.length).getD n P2.o = _; rw [List.getD_eq_getElem?_getD,List.getElem?_eq_getElem hn]; exact he⟩
theorem prs_cases {bs : List Bd} {p : P2} (h : p ∈ prsA bs) : ∃ m n k i k' i' : Nat,m < n ∧ n < (refs bs).length ∧ p = ⟨(m : Int),(n : Int)⟩ ∧
  (k < bs.length ∧ frst bs k = true ∧ i < (bs.getD k Bd.o).fs.length ∧ (refs bs).getD m P2.o = ⟨(k : Int),(i : Int)⟩ ∧ rfA bs p.a = ⟨(k : Int),(i : Int)⟩) ∧
  (k' < bs.length ∧ frst bs k' = true ∧ i' < (bs.getD k' Bd.o).fs.length ∧ (refs bs).getD n P2.o = ⟨(k' : Int),(i' : Int)⟩ ∧ rfA bs p.b = ⟨(k' : Int),(i' : Int)⟩) ∧
  ovQ (pxQ (bs.getD k Bd.o) ((bs.getD k Bd.o).fs.getD i Fx.o)) (pxQ (bs.getD k' Bd.o) ((bs.getD k' Bd.o).fs.getD i' Fx.o)) = true:=by
 obtain ⟨m,n,h1,h2,h3,h4⟩:=(mem_prsA bs (refs bs) p).1 h
 obtain ⟨k,i,a1,a2,a3,a4⟩:=refs_at (show m < (refs bs).length by omega)
 obtain ⟨k',i',b1,b2,b3,b4⟩:=refs_at h2
 rw [a4,b4] at h4
 exact ⟨m,n,k,i,k',i',h1,h2,h3,⟨a1,a2,a3,a4,by rw [h3]; exact a4⟩,⟨b1,b2,b3,b4,by rw [h3]; exact b4⟩,h4⟩
theorem acpP_at (bs : List Bd) (js : List Jt) (k i k' i' : Nat) : acpP bs js ⟨(k : Int),(i : Int)⟩ ⟨(k' : Int),(i' : Int)⟩ = true ↔
  ((bs.getD k Bd.o).kd = 3 ∨ (bs.getD k' Bd.o).kd = 3) ∧ k ≠ k' ∧ shd ((bs.getD k Bd.o).fs.getD i Fx.o) ((bs.getD k' Bd.o).fs.getD i' Fx.o) = true ∧ conn js (bs.getD k Bd.o).id (bs.getD k' Bd.o).id = false:=by
 unfold acpP bdA fxA bdA
 simp only [Int.toNat_natCast,Bool.and_eq_true,Bool.or_eq_true,decide_eq_true_eq,Bool.not_eq_true',decide_eq_false_iff_not,and_assoc,ne_eq,Int.ofNat_inj]
theorem keyP_at (bs : List Bd) (k i k' i' : Nat) : keyP bs ⟨(k : Int),(i : Int)⟩ ⟨(k' : Int),(i' : Int)⟩ =
  if (bs.getD k' Bd.o).id < (bs.getD k Bd.o).id then keyQ (bs.getD k' Bd.o) (bs.getD k Bd.o) i' i else keyQ (bs.getD k Bd.o) (bs.getD k' Bd.o) i i':=rfl
theorem mem_fnd (bs : List Bd) (js : List Jt) (x : K4) : x ∈ fnd bs js (prsA bs) ↔ x ∈ kA bs js bs.length:=by
 rw [mem_kA]
 unfold fnd
 rw [List.mem_map]
 constructor
 ·rintro ⟨p,hp,rfl⟩
  obtain ⟨hp,hacc⟩:=List.mem_filter.1 hp
  obtain ⟨m,n,k,i,k',i',h1,h2,h3,⟨a1,a2,a3,a4,a5⟩,⟨b1,b2,b3,b4,b5⟩,h4⟩:=prs_cases hp
  unfold accI at hacc
  unfold keyI
  rw [a5,b5] at hacc ⊢
  obtain ⟨c1,c2,c3,c4⟩:=(acpP_at bs js k i k' i').1 hacc
  rw [keyP_at]
  have hne : (bs.getD k Bd.o).id ≠ (bs.getD k' Bd.o).id:=fun e=>c2 (frst_inj a2 b2 e)
  split
  ·rename_i hlt
   exact ⟨k',k,i',i,b1,a1,(okB_iff _ _ _ _).2 ⟨hlt,b2,a2,c1.symm,by rw [conn_sym]; exact c4⟩,b3,a3,by unfold okQ; rw [shd_sym,c3,ovQ_sym,h4]; rfl,rfl⟩
  ·rename_i hlt
   exact ⟨k,k',i,i',a1,b1,(okB_iff _ _ _ _).2 ⟨by omega,a2,b2,c1,c4⟩,a3,b3,by unfold okQ; rw [c3,h4]; rfl,rfl⟩
 ·rintro ⟨i,k,p,q,hi,hk,hok,hp,hq,hQ,rfl⟩
  obtain ⟨c1,c2,c3,c4,c5⟩:=(okB_iff _ _ _ _).1 hok
  unfold okQ at hQ
  rw [Bool.and_eq_true] at hQ
  obtain ⟨m,hm,em⟩:=refs_of hi c2 hp
  obtain ⟨n,hn,en⟩:=refs_of hk c3 hq
  have hik : i ≠ k:=fun e=>by subst e; omega
  rcases Nat.lt_trichotomy m n with hmn|e|hmn
  ·refine ⟨⟨(m : Int),(n : Int)⟩,List.mem_filter.2 ⟨(mem_prsA bs (refs bs) _).2 ⟨m,n,hmn,hn,rfl,by rw [em,en]; exact hQ.2⟩,?_⟩,?_⟩
   ·unfold accI rfA
    rw [Int.toNat_natCast,Int.toNat_natCast,em,en]
    exact (acpP_at bs js i p k q).2 ⟨c4,hik,hQ.1,c5⟩
   ·unfold keyI rfA
    rw [Int.toNat_natCast,Int.toNat_natCast,em,en,keyP_at,if_neg (by omega)]
  ·subst e; rw [em] at en; injection en with h1 _; omega
  ·refine ⟨⟨(n : Int),(m : Int)⟩,List.mem_filter.2 ⟨(mem_prsA bs (refs bs) _).2 ⟨n,m,hmn,hm,rfl,by rw [em,en,ovQ_sym]; exact hQ.2⟩,?_⟩,?_⟩
   ·unfold accI rfA
    rw [Int.toNat_natCast,Int.toNat_natCast,em,en]
    exact (acpP_at bs js k q i p).2 ⟨c4.symm,hik.symm,by rw [shd_sym]; exact hQ.1,by rw [conn_sym]; exact c5⟩
   ·unfold keyI rfA
    rw [Int.toNat_natCast,Int.toNat_natCast,em,en,keyP_at,if_pos c1]
theorem fnd_nodup (bs : List Bd) (js : List Jt) : (fnd bs js (prsA bs)).Nodup:=by
 unfold fnd
 refine List.pairwise_map.2 ?_
 refine List.Pairwise.imp_of_mem ?_ ((prsA_nodup bs (refs bs)).sublist List.filter_sublist)
 intro p p' hp hp' hne he
 obtain ⟨hp,hacc⟩:=List.mem_filter.1 hp
 obtain ⟨hp',hacc'⟩:=List.mem_filter.1 hp'
 obtain ⟨m,n,k,i,k',i',h1,h2,h3,⟨a1,a2,a3,a4,a5⟩,⟨b1,b2,b3,b4,b5⟩,h4⟩:=prs_cases hp
 obtain ⟨m',n',l,j,l',j',g1,g2,g3,⟨d1,d2,d3,d4,d5⟩,⟨e1,e2,e3,e4,e5⟩,g4⟩:=prs_cases hp'
 unfold keyI at he
 rw [a5,b5,d5,e5,keyP_at,keyP_at] at he
 have hnd:=rfK_nodup bs bs.length
 have key : (k = l ∧ i = j ∧ k' = l' ∧ i' = j') ∨ (k = l' ∧ i = j' ∧ k' = l ∧ i' = j):=by
  split at he <;> split at he <;> unfold keyQ at he <;> injection he with q1 q2 q3 q4
  ·exact .inl ⟨frst_inj a2 d2 q3,by omega,frst_inj b2 e2 q1,by omega⟩
  ·exact .inr ⟨frst_inj a2 e2 q3,by omega,frst_inj b2 d2 q1,by omega⟩
  ·exact .inr ⟨frst_inj a2 e2 q1,by omega,frst_inj b2 d2 q3,by omega⟩
  ·exact .inl ⟨frst_inj a2 d2 q1,by omega,frst_inj b2 e2 q3,by omega⟩
 rcases key with ⟨rfl,rfl,rfl,rfl⟩|⟨rfl,rfl,rfl,rfl⟩
 ·have:=nodup_at hnd (show m < (refs bs).length by omega) (show m' < (refs bs).length by omega) (a4.trans d4.symm)
  have:=nodup_at hnd h2 g2 (b4.trans e4.symm)
  exact hne (by rw [h3,g3]; subst_vars; rfl)
 ·have:=nodup_at hnd (show m < (refs bs).length by omega) g2 (a4.trans e4.symm)
  have:=nodup_at hnd h2 (show m' < (refs bs).length by omega) (b4.trans d4.symm)
  omega
theorem fpP_eq (bs : List Bd) (js : List Jt) : fpP bs js = fpR bs js:=by
 obtain ⟨h1,h2⟩:=sortK_SS (fnd_nodup bs js)
 obtain ⟨h3,h4⟩:=insL_SS (kA_nodup bs js bs.length)
 exact SS.ext kql_STO h1 h3 fun x=>(h2 x).trans ((mem_fnd bs js x).trans (h4 x).symm)
theorem fpR_SS (bs : List Bd) (js : List Jt) : SS kql (fpR bs js) ∧ ∀ x,x ∈ fpR bs js ↔ x ∈ kA bs js bs.length:=insL_SS (kA_nodup bs js bs.length)
end Go.Carom
/-
 The plain law of chapter 22: the order of the bodies; what sweep and prune finds among the proxies. Conditions: none; no program in sight.
-/
namespace Go.Carom
open Go.RowKit Go.AL
theorem mem_getB {l : List Bd} {x : Bd} : x ∈ l ↔ ∃ j,j < l.length ∧ l.getD j Bd.o = x:=by
 constructor
 ·intro h
  obtain ⟨j,hj,he⟩:=List.mem_iff_getElem.1 h
  exact ⟨j,hj,by rw [List.getD_eq_getElem?_getD,List.getElem?_eq_getElem hj]; exact he⟩
 ·rintro ⟨j,hj,rfl⟩
  exact getD_mem hj
/-! ### the proxies -/
theorem p2_at {l : List P2} {n : Nat} (h : n < l.length) : l.getD n P2.o = l[n]:=by rw [List.getD_eq_getElem?_getD,List.getElem?_eq_getElem h]; rfl
end Go.Carom
/-
 IDs in ascending order,each once. Conditions: none; no program in sight.
-/
namespace Go.Carom
open Go Go.AL
theorem tw_at {α : Type} (p : α → Bool) (d : α) : ∀ {l : List α} {i : Nat},i ≤ l.length → (∀ j,j < i → p (l.getD j d) = true) → (i = l.length ∨ p (l.getD i d) = false) → l.takeWhile p = l.take i ∧ l.dropWhile p = l.drop i
  | [],i,hi,_,_=>by simp at hi; subst hi; simp
  | a :: l,0,_,_,h=>by
    rcases h with h|h
    · simp at h
    · have h' : p a = false:=h
      simp [h']
  | a :: l,i + 1,hi,h1,h2=>by
    have h0 : p a = true:=h1 0 (by omega)
    obtain ⟨q1,q2⟩:=tw_at p d (l:=l) (i:=i) (by simpa using hi) (fun j hj=>h1 (j + 1) (by omega)) (by
      rcases h2 with h2|h2
      · exact .inl (by simpa using h2)
      · exact .inr h2)
    simp [h0,q1,q2]
end Go.Carom
/-
 The plain law of chapter 38: events between two lists of overlaps,and who overlaps with whom. Conditions: none; no program in sight.
-/
namespace Go.Carom
open Go Go.AL
def kK (k : K4) : List Value:=[.int .i64 k.a,.int .i64 k.fa,.int .i64 k.b,.int .i64 k.fb]
theorem kK_kinds (k : K4) : (kK k).map kindOf = K4S.map some:=rfl
theorem kK_inj {c d : K4} : kK c = kK d ↔ c = d:=by cases c; cases d; simp [kK]
def K4.evt (kd : Int) (k : K4) : Evt:=⟨kd,k.a,k.fa,k.b,k.fb⟩
end Go.Carom
