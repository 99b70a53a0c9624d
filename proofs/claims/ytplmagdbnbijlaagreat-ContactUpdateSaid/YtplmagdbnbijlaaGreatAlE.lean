/-
  The abstract logic: slices.SortFunc on a row of one's own. Conditions: the library's function is the shelf's; the comparison is a strict weak order that parts whatever two are not one.
-/
import Derived.Test.YtplmagdbnbijlaaGreatAlB
import Derived.Shelf.SlSortCmp.NoneTotal
set_option linter.all false
namespace Go.AL
open Go.RowKit Go.Proofs Go.Shelf Go.Lib
theorem kept_grow {w w' : World} (h : Kept w (fun _=>False) w') : ∃ q os,w' = Go.Sort.grow (w.drewN q) os:=by
 refine ⟨w'.drawn - w.drawn,w'.heap.extract w.heap.size w'.heap.size,?_⟩
 have hh : w'.heap = w.heap ++ w'.heap.extract w.heap.size w'.heap.size:=by
  apply Array.ext_getElem?
  intro k
  rw [Array.getElem?_append]
  by_cases hk : k < w.heap.size
  ·rw [if_pos hk]; exact h.block k hk id
  ·rw [if_neg hk,Array.getElem?_extract]
   have:=h.size
   by_cases h2 : k - w.heap.size < min w'.heap.size w'.heap.size - w.heap.size
   ·rw [if_pos h2]; congr 1; omega
   ·rw [if_neg h2]; exact Array.getElem?_eq_none (by omega)
 have hd : w'.drawn = w.drawn + (w'.drawn - w.drawn):=by have:=h.drawn; omega
 have h1:=h.os; have h2:=h.tape; have h3:=h.output
 unfold Go.Sort.grow World.drewN
 cases w'; cases w
 simp only at hh hd h1 h2 h3 ⊢
 subst h1; subst h2; subst h3
 rw [← hh,← hd]
theorem grow_kept (w : World) (os : Array Obj) (F : Nat → Prop) : Kept w F (Go.Sort.grow w os):=
 ⟨rfl,rfl,rfl,by simp,fun k hk _=>by unfold Go.Sort.grow; rw [Array.getElem?_append_left hk],Nat.le_refl _⟩
section
variable {P : Program} {ρ : Ren} {α : Type} [Inhabited α]
theorem reps_agg {w : World} {O : Nat → Prop} {g : Nat → List Value} (l : List Value) : Rep w O g (.agg (l.map .sc)) (.agg l.toArray):=by
 refine .agg _ _ (by simp) fun j hj=>?_
 have hj' : j < l.length:=by simpa using hj
 rw [show (l.map AV.sc).getD j .und = .sc l[j] by simp [List.getD_eq_getElem?_getD,hj'],show l.toArray.getD j undef = l[j] by simp [Array.getD,hj']]
 exact .sc _
theorem reps2 {w : World} {O : Nat → Prop} {g : Nat → List Value} {a b : AV} {x y : Value} (h : Rep w O g a x) (h' : Rep w O g b y) : Reps w O g [a,b] #[x,y]:=by
 refine ⟨rfl,fun j hj=>?_⟩
 rcases j with _|_|j
 ·exact h
 ·exact h'
 ·simp at hj; omega
theorem cmpLays_of {f : Nat} {enc : α → List Value} {k : Nat} {cf : α → α → Int} (h : ∀ x y,PCall P f [.agg ((enc x).map .sc),.agg ((enc y).map .sc)] (.i (cf x y))) (blk off size : Nat) (w : World) : CmpLays P f #[] enc k cf blk off size w:=by
 intro m os dk _ x y
 rw [Array.append_empty]
 generalize sortWorldK enc k w blk off m dk os = W
 refine ((h x y).2 W (fun _=>False) (fun _=>[]) #[.agg (enc x).toArray,.agg (enc y).toArray] (fun _ h=>h.elim) (reps2 (reps_agg _) (reps_agg _))).mono ?_
 rintro e w' ⟨v,rfl,hv,hk⟩
 rw [hv.sc_inv]
 exact ⟨rfl,kept_grow hk⟩
theorem calls_sort (L : SlLaysF0.n6 P ρ) (k : Nat) (k0 : 0 < k) (aE : ∀ w,(isAgg (ρ.t 24)).run P w = .ok true w) (zE : ∀ w,(Go.sizeOf (ρ.t 24)).run P w = .ok k w) (enc : α → List Value) (hkl : ∀ x,(enc x).length = k) (h1 : ∀ x,∀ v ∈ enc x,v.oneCell' = true)
    (cf : α → α → Int) (hO : Go.Sort.SWO (ltOf cf)) (hT : ∀ x y,(ltOf cf) x y = false → (ltOf cf) y x = false → x = y) {f fs : Nat} (hfs : ρ.f 6 = fs) {Hl : HH} {nx b e ver : Nat} {l : List α} (F : α → AV) (hF : ∀ x,F x = .agg ((enc x).map .sc))
    (hb : hk Hl b = some (.row e k ver (l.map F))) (hcmp : ∀ x y,PCall P f [F x,F y] (.i (cf x y))) (hlen : l.length < 4611686018427387904) (hent : entB P fs = true) :
    CallS P (hk Hl) nx fs [.ow b ver,.clo f []] ⟨.tup [],[(b,.row e k ver ((l.mergeSort fun x y=>!(ltOf cf) y x).map F))],0,[b]⟩:=by
  subst hfs
  refine ⟨hent,fun C T' H' D g a w hP hr hH _ vs hvs=>?_⟩
  have hb' : H' b = some (.row e k ver (l.map F)):=(hH b (by simp)).trans hb
  have hlF : (l.map F).length = l.length:=by simp
  obtain ⟨va,vb,rfl⟩ : ∃ va vb,vs = #[va,vb]:=by
    have:=hvs.1
    obtain ⟨vs⟩:=vs
    match vs,this with
    | [x,y],_=>exact ⟨x,y,rfl⟩
  have r1 : Rep w _ g (.ow b ver) va:=hvs.2 0 (by simp)
  have r2 : Rep w _ g (.clo f []) vb:=hvs.2 1 (by simp)
  obtain ⟨aa,n,c,rfl,hg⟩:=r1.ow_inv
  obtain ⟨cb,rfl,hcb,_⟩:=r2.clo_inv
  obtain rfl : cb = #[]:=Array.eq_empty_of_size_eq_zero hcb
  have hcmp' : ∀ x y,PCall P f [.agg ((enc x).map .sc),.agg ((enc y).map .sc)] (.i (cf x y)):=fun x y=>by rw [← hF,← hF]; exact hcmp x y
  have hsame : ∀ x,H' b = some x → updL H' [(b,x)] = H':=fun x hx=>by
    funext c
    simp only [updL]
    by_cases hc : c = b
    · subst hc; rw [updF_same,hx]
    · rw [updF_other hc]
  rcases Nat.eq_zero_or_pos l.length with h0|h0
  · obtain rfl:=List.eq_nil_of_length_eq_zero h0
    obtain ⟨sv,xs,g1,_,g3,_⟩:=hr.bx b _ hb'
    rw [hg] at g1
    injection g1 with g1
    subst g1
    obtain ⟨_,_,hs,_⟩:=g3.slice
    injection hs with _ hs _
    subst hs
    refine (AnyF.slices_SortFunc_none { L with } aa c (.func (.func f) #[] #[]) w).mono ?_
    rintro e' w' ⟨rfl,rfl⟩
    refine ⟨_,g,rfl,?_,.tup [] #[] rfl (fun j hj=>by simp at hj)⟩
    rw [show (([] : List α).mergeSort fun x y=>!(ltOf cf) y x).map F = ([] : List α).map F by simp,hsame _ hb']
    exact hr.dmono fun b hb=>.inl hb
  · obtain ⟨blk,cap,cur,g1,g2,h2,hc1,hc2,h5,hob,h6,h7⟩:=row_open (hr.bx b _ hb') (by rw [hlF]; exact h0)
    have hg0:=hg
    rw [hg] at g1
    injection g1 with g1
    injection g1 with e1 e2 e3
    subst e1; subst e2; subst e3
    rw [hlF] at hc1
    have hblk : blk < w.heap.size:=(Array.getElem?_eq_some_iff.1 h2).1
    have hget : ∀ i,i < l.length → (l.map F).getD i .und = .agg ((enc (l.toArray[i]!)).map .sc):=fun i hi=>by
      rw [List.getD_eq_getElem?_getD,List.getElem?_map,List.getElem?_eq_getElem hi]
      simp [hF,hi]
    have hbd : ∀ i,i < l.length → i * k + k ≤ l.length * k:=fun i hi=>by
      have:=Nat.mul_le_mul_right k (show i + 1 ≤ l.length by omega)
      rwa [Nat.succ_mul] at this
    have hle : l.length * k ≤ cur.size:=by rw [h5]; exact Nat.mul_le_mul_right k hc1
    have hcells : ∀ i,i < l.length → ∀ j,j < k → cur[i * k + j]? = some (enc (l.toArray[i]!))[j]! := fun i hi j hj=>by
      have:=(h7 i (by rw [hlF]; exact hi) j hj).2
      rw [hget i hi] at this
      have hj' : j < (enc (l.toArray[i]!)).length:=by rw [hkl]; exact hj
      have e4 : (AV.agg ((enc (l.toArray[i]!)).map .sc)).cells.getD j .und = .sc (enc (l.toArray[i]!))[j]! := by
        simp only [AV.cells]
        rw [List.getD_eq_getElem?_getD,List.getElem?_map,List.getElem?_eq_getElem hj',getElem!_pos _ j hj']; rfl
      rw [e4] at this
      have e5:=this.sc_inv
      have hlt : i * k + j < cur.size:=by have:=hbd i hi; omega
      rw [Array.getD_eq_getD_getElem?,Array.getElem?_eq_getElem hlt] at e5
      rw [Array.getElem?_eq_getElem hlt]; exact congrArg some e5
    have hH0 : Go.Sort.HoldsK enc k w blk 0 l.toArray:=by
      intro t ht
      have ht' : t < l.length * k:=by simpa using ht
      have hd : t / k < l.length:=Nat.div_lt_of_lt_mul (by rwa [Nat.mul_comm] at ht')
      have hm : t % k < k:=Nat.mod_lt _ k0
      have he : t / k * k + t % k = t:=by rw [Nat.mul_comm]; exact Nat.div_add_mod t k
      have:=hcells (t / k) hd (t % k) hm
      rw [he] at this
      rw [Go.Sort.get_flatK _ _ _ _ (by simpa using ht')]
      refine ⟨?_,?_⟩
      · unfold World.cell?; simp only [h2,Nat.zero_add]; exact this
      · unfold World.frozen?; simp [h2]
    have hcon:=AnyQ.slices_SortFunc_total (P:=P) (ρ:=ρ) L k aE zE enc hkl h1 cf hO f #[] blk 0 (cap + 1) l.toArray w (fun args w=>run_callFunc (hcmp' default default).1 args w) (cmpLays_of hcmp' _ _ _ _) hH0 hblk (by simpa using hlen) hT
    have hsz : l.toArray.size = l.length:=by simp
    rw [hsz,← hlF] at hcon
    refine hcon.mono ?_
    rintro e' w' ⟨rfl,n,os,rfl⟩
    generalize hl' : l.mergeSort (fun x y=>!(ltOf cf) y x) = l'
    have hlen' : l'.length = l.length:=by rw [← hl']; exact List.length_mergeSort l
    have hcon2:=Go.Sort.holdsK_putRowK enc k (Go.Sort.ahead w n) blk 0 l.toArray l'.toArray (Go.Sort.holdsK_ahead enc k w n blk 0 _ hH0) (by simpa using hlen')
    have hnew : (Go.Sort.putRowK enc k (Go.Sort.ahead w n) blk 0 l'.toArray).heap[blk]? = some (.cells (Go.Sort.putCells id 0 (Go.Sort.flatK enc k l'.toArray) cur) e (0,0)):=by
      unfold Go.Sort.putRowK Go.Sort.putRow Go.Sort.mapBlock
      show ((w.heap.modify blk _)[blk]?) = _
      rw [Array.getElem?_modify,if_pos rfl,h2]; rfl
    generalize hc' : Go.Sort.putCells id 0 (Go.Sort.flatK enc k l'.toArray) cur = cur' at hnew
    have hs' : cur'.size = cur.size:=by rw [← hc']; simp [Go.Sort.putCells]
    have hcells' : ∀ i,i < l'.length → ∀ j,j < k → cur'[i * k + j]? = some (enc (l'.toArray[i]!))[j]! := fun i hi j hj=>by
      have:=(Go.Sort.HoldsK.cell hcon2 (i:=i) (c:=j) (by simpa using hi) hj).1
      unfold World.cell? at this
      simp only [hnew,Nat.zero_add] at this
      exact this
    have hoth : ∀ j,j ≠ blk → (Go.Sort.putRowK enc k (Go.Sort.ahead w n) blk 0 l'.toArray).heap[j]? = w.heap[j]? := by
      intro j hj
      unfold Go.Sort.putRowK Go.Sort.putRow Go.Sort.mapBlock
      show ((w.heap.modify blk _)[j]?) = _
      rw [Array.getElem?_modify,if_neg (fun h=>hj h.symm)]
    have hsz' : (Go.Sort.putRowK enc k (Go.Sort.ahead w n) blk 0 l'.toArray).heap.size = w.heap.size:=by
      unfold Go.Sort.putRowK Go.Sort.putRow Go.Sort.mapBlock
      show (w.heap.modify blk _).size = _
      simp
    have hlF' : (l'.map F).length = l.length:=by simp [hlen']
    have hget' : ∀ i,i < l'.length → (l'.map F).getD i .und = .agg ((enc (l'.toArray[i]!)).map .sc):=fun i hi=>by
      rw [List.getD_eq_getElem?_getD,List.getElem?_map,List.getElem?_eq_getElem hi]
      simp [hF,hi]
    have hr1:=hr.setbox (x1:=.row e k ver (l'.map F)) (w':=Go.Sort.putRowK enc k (Go.Sort.ahead w n) blk 0 l'.toArray) hb' hob (by simp only [ownBlk,hg0]; rfl) rfl rfl rfl hsz' (Nat.le_add_right _ _) hoth (fun hl=>by
      refine ⟨_,cur'.toList.take (l'.length * k),hg0,g2,⟨by rw [List.length_take,List.length_map]; simp; rw [hs',hlen']; omega,.inr ⟨blk,cap,cur',by rw [hlF',hlF],hnew,by rw [hlF']; exact hc1,hc2,by omega,by rw [hlF',hlen']⟩⟩,fun v hv=>?_,fun i hi j hj=>?_⟩
      · obtain ⟨x,_,rfl⟩:=List.mem_map.1 hv
        rw [hF]; simp [AV.cells,hkl]
      · have hi' : i < l'.length:=by simpa using hi
        have hj' : j < (enc (l'.toArray[i]!)).length:=by rw [hkl]; exact hj
        rw [hget' i hi']
        have e4 : (AV.agg ((enc (l'.toArray[i]!)).map .sc)).cells.getD j .und = .sc (enc (l'.toArray[i]!))[j]! := by
          simp only [AV.cells]
          rw [List.getD_eq_getElem?_getD,List.getElem?_map,List.getElem?_eq_getElem hj',getElem!_pos _ j hj']; rfl
        have hbd' : i * k + j < l'.length * k:=by have:=hbd i (by omega); rw [hlen']; omega
        rw [e4,List.getD_eq_getElem?_getD,List.getElem?_take,if_pos hbd',Array.getElem?_toList,hcells' i hi' j hj]
        exact .sc _)
    exact ⟨_,g,rfl,(hr1.grow (grow_kept _ os _)).dmono fun b hb=>.inl hb,.tup [] #[] rfl (fun j hj=>by simp at hj)⟩
end
end Go.AL
/-
 The abstract logic: slices.SortFunc on a row of one's own,the comparison parting whatever two of the row are not one. Conditions: the library's function is the shelf's.
-/
namespace Go.AL
open Go.RowKit Go.Proofs Go.Shelf Go.Lib
section
variable {β : Type} {P : Program} {ρ : Ren}
abbrev Among (l : List β) (d : β) : Type:={ x : β // x ∈ l ∨ (l = [] ∧ x = d) }
def Among.one (l : List β) (d : β) : Among l d:=match l with
 | []=>⟨d,.inr ⟨rfl,rfl⟩⟩
 | a :: _=>⟨a,.inl (List.mem_cons_self ..)⟩
theorem cst_sortD (L : SlLaysF0.n6 P ρ) (k : Nat) (k0 : 0 < k) (aE : ∀ w,(isAgg (ρ.t 24)).run P w = .ok true w) (zE : ∀ w,(Go.sizeOf (ρ.t 24)).run P w = .ok k w) (enc : β → List Value) (hkl : ∀ x,(enc x).length = k) (h1 : ∀ x,∀ v ∈ enc x,v.oneCell' = true)
    (cf : β → β → Int) (hO : Go.Sort.SWO (ltOf cf)) (d : β) {l : List β} (hT : ∀ x ∈ l,∀ y ∈ l,(ltOf cf) x y = false → (ltOf cf) y x = false → x = y) {f fs : Nat} (hfs : ρ.f 6 = fs) {Hl : HH} {nx b e ver : Nat} (F : β → AV) (hF : ∀ x,F x = .agg ((enc x).map .sc))
    (hb : hk Hl b = some (.row e k ver (l.map F))) (hcmp : ∀ x y,PCall P f [F x,F y] (.i (cf x y))) (hlen : l.length < 4611686018427387904) (hent : entB P fs = true) {K : Res → Prop}
    (hK : K ⟨.tup [],[(b,.row e k ver ((l.mergeSort fun x y=>!(ltOf cf) y x).map F))],0,[b]⟩) : cst P (hk Hl) nx (.clo fs []) [.ow b ver,.clo f []] K:=by
  letI : Inhabited (Among l d):=⟨Among.one l d⟩
  let l' : List (Among l d):=l.attach.map fun x=>⟨x.1,.inl x.2⟩
  have hl' : l'.map Subtype.val = l:=by
    show (l.attach.map fun x=>(⟨x.1,.inl x.2⟩ : Among l d)).map Subtype.val = l
    rw [List.map_map]
    exact (List.map_congr_left (fun x _=>rfl)).trans (List.attach_map_subtype_val l)
  have hmap : ∀ G : β → AV,l'.map (fun x=>G x.1) = l.map G:=fun G=>by
    have:=congrArg (List.map G) hl'
    rw [List.map_map] at this
    exact this
  have hms : (l'.mergeSort fun x y=>!(ltOf (fun (x y : Among l d)=>cf x.1 y.1)) y x).map (fun x=>F x.1) = (l.mergeSort fun x y=>!(ltOf cf) y x).map F:=by
    have h2:=List.map_mergeSort (f:=Subtype.val) (l:=l') (r:=fun x y=>!(ltOf (fun (x y : Among l d)=>cf x.1 y.1)) y x) (s:=fun x y=>!(ltOf cf) y x) (fun a _ b _=>rfl)
    rw [hl'] at h2
    rw [← h2,List.map_map]; rfl
  have hc:=calls_sort (α:=Among l d) L k k0 aE zE (fun x=>enc x.1) (fun x=>hkl x.1) (fun x=>h1 x.1) (fun x y=>cf x.1 y.1) ⟨fun x=>hO.irrefl x.1,fun x y z=>hO.trans x.1 y.1 z.1,fun x y z=>hO.ntrans x.1 y.1 z.1⟩
    (fun x y hx hy=>by
      obtain ⟨x,hxm⟩:=x
      obtain ⟨y,hym⟩:=y
      refine Subtype.ext ?_
      rcases hxm with hxm|⟨h0,hxm⟩ <;> rcases hym with hym|⟨h0',hym⟩
      · exact hT x hxm y hym hx hy
      · rw [h0'] at hxm; cases hxm
      · rw [h0] at hym; cases hym
      · exact hxm.trans hym.symm) hfs (Hl:=Hl) (nx:=nx) (b:=b) (e:=e) (ver:=ver) (l:=l') (fun x=>F x.1) (fun x=>hF x.1) (by rw [hmap F]; exact hb) (fun x y=>hcmp x.1 y.1)
    (by rw [show l'.length = l.length by have:=congrArg List.length hl'; rwa [List.length_map] at this]; exact hlen) hent
  rw [hms] at hc
  exact ⟨_,by rw [List.append_nil]; exact hc,hK⟩
end
theorem kt {α : Type} {o : Option α} {a b : α} (h : o=some a) (e : a=b) : o=some b:=h.trans (congrArg some e)
end Go.AL
