/-
  Valid manifolds, FindBody, fixtures and bodies that exist, keys of contacts. Conditions: none.
-/
import Derived.Test.YtplmagdbnbijlaaGreatCV
import Derived.Test.YtplmagdbnbijlaaGreatAlD
import Derived.Outline
import Derived.Test.YtplmagdbnbijlaaGreatMD
set_option maxHeartbeats 4000000
set_option maxRecDepth 20000
set_option linter.all false
namespace Go.Proofs.YtplmagdbnbijlaaGreat
open Go.RowKit Go.AL Go.Carom
theorem p6_none {l : List P6} {i : Nat} (h : ¬ i < l.length) : (l.map P6.v).getD i .und = .und:=by
 rw [List.getD_eq_getElem?_getD,List.getElem?_eq_none (by rw [List.length_map]; omega)]; rfl
theorem mn_fidx (x y : Int) (l : List P6) : (mnH x y l && !decide (0 ≤ fidx l.length (p6okI l))) = mnOk x y l:=by rw [fidx_all]; rfl
theorem mnH_lo {x y : Int} {l : List P6} (h : l.length < 1) : mnOk x y l = false:=by unfold mnOk mnH; rw [decide_eq_false (show ¬ 1 ≤ l.length by omega)]; rfl
theorem mnH_hi {x y : Int} {l : List P6} (h : 2 < l.length) : mnOk x y l = false:=by unfold mnOk mnH; rw [decide_eq_false (show ¬ l.length ≤ 2 by omega),Bool.and_false]; rfl
theorem mnH_2 {x y : Int} {l : List P6} (h : l.length = 2) : mnH x y l = (!decide ((l.getD 0 P6.o).d = (l.getD 1 P6.o).d) && (satI x && satI y)):=by unfold mnH; rw [h]; rfl
theorem mnH_1 {x y : Int} {l : List P6} (h : l.length = 1) : mnH x y l = (satI x && satI y):=by unfold mnH; rw [h]; rfl
theorem c_vm1 (p : P6) : PCall Tryz.prog 257 [.agg [.i p.a,.i p.b,.i p.c,.i p.d,.i p.e,.i p.f]] (.b (!p6ok p)):=by
 refine pcall_of hm Tryz.func257 rfl (by kernel_rfl) (by rw [Tryz.ntmps257]; exact Nat.le_of_ble_eq_true rfl) (lt_cons (lt_agg (lt_cons (lt_i _ _) (lt_cons (lt_i _ _) (lt_cons (lt_i _ _) (lt_cons (lt_i _ _) (lt_cons (lt_i _ _) (lt_cons (lt_i _ _) lt_nil))))))) lt_nil) (lt_b _ _) ?_
 rw [Tryz.ntmps257,Tryz.results257]
 have i1 : HasC Tryz.prog 255 [.sl [.i p.a,.i p.b,.i p.c,.i p.d,.i p.e,.i p.f]] (.b (satI p.a && satI p.b && satI p.c && satI p.d && satI p.e && satI p.f)):=⟨c_sat6 _ _ _ _ _ _⟩
 have hq : (!p6ok p) = (decide (p.e < 0) || !(satI p.a && satI p.b && satI p.c && satI p.d && satI p.e && satI p.f)):=by
  unfold p6ok
  rw [show decide (p.e < 0) = !decide (0 ≤ p.e) by rw [Bool.eq_iff_iff]; simp,Bool.not_and]
 rw [hq]
 generalize (satI p.a && satI p.b && satI p.c && satI p.d && satI p.e && satI p.f) = q at *
 by_cases he : p.e < 0
 ·have d1 : (p.e < 0) = True:=eq_true he
  repeat' (first|simp only [go_sem,↓reduceIte,Nat.reduceLT,Nat.reduceEqDiff,Nat.reduceAdd,Nat.reduceLeDiff,Nat.reduceMul,reduceCtorEq,d1]|refine gcst_deadb ?_)
  all_goals (try rfl)
 ·have d1 : (p.e < 0) = False:=eq_false he
  repeat' (first|simp only [go_sem,↓reduceIte,Nat.reduceLT,Nat.reduceEqDiff,Nat.reduceAdd,Nat.reduceLeDiff,Nat.reduceMul,reduceCtorEq,d1]|refine gcst_go ?_)
  all_goals (try rfl)
theorem c_ixpt (l : List P6) (hl : l.length ≤ maxLen) : PCall Tryz.prog 143 [.sl (l.map P6.v),.clo 257 []] (.i (fidx l.length (p6okI l))):=by
 refine pcall_of hm Tryz.func143 rfl (by kernel_rfl) (by rw [Tryz.ntmps143]; exact Nat.le_of_ble_eq_true rfl) (lt_cons (lt_p6s _ _) (lt_cons (.clo _ _ lt_nil) lt_nil)) (lt_i _ _) ?_
 rw [Tryz.ntmps143,Tryz.results143]
 repeat' (first|simp only [go_sem,↓reduceIte,Nat.reduceLT,Nat.reduceAdd,reduceCtorEq,Int.reduceNeg])
 refine tr_lp hm [0,1,7] [] (fun x' : LS (l.length) (p6okI l)=>[(8,.i x'.i)]) (fun x' : LS (l.length) (p6okI l)=>[]) (fun x'=>l.length - x'.i) (LS.start _ _) ?_ ?_ ?_
 ·repeat' (first|exact tw_nil|refine tw_cons rfl ?_ ?_|exact lt_i _ _|exact lt_p6s _ _|exact lt_nil|refine Lt.clo _ _ ?_)
 ·repeat' (first|exact hw_nil)
 ·rintro ⟨i,hi,hh⟩
  by_cases hlt : i < l.length
  ·have e1:=ilt hlt
   have e2:=isucc hlt hl
   have e3:=p6_getD hlt
   have j1 : HasC Tryz.prog 257 [.agg [.i (l.getD i P6.o).a,.i (l.getD i P6.o).b,.i (l.getD i P6.o).c,.i (l.getD i P6.o).d,.i (l.getD i P6.o).e,.i (l.getD i P6.o).f]] (.b (!p6ok (l.getD i P6.o))):=⟨c_vm1 _⟩
   repeat' (first|simp only [go_sem,↓reduceIte,Nat.reduceLT,Nat.reduceEqDiff,Nat.reduceAdd,Nat.reduceLeDiff,reduceCtorEq,Int.reduceNeg,e1,e2,e3]|refine cst_go ?_|refine acond_split (fun _=>?_) (fun _=>?_))
   all_goals (try omega)
   ·rename_i hc
    refine leaf_i ?_
    exact (fidx_hit hlt hh (by unfold p6okI; simpa using hc)).symm
   ·rename_i hc
    refine ⟨LS.next hlt hh (by unfold p6okI; simpa using hc),Nat.sub_lt_sub_left hlt (Nat.lt_succ_self _),wk_go (by decide) ?_ ?_⟩
    ·repeat' (first|exact tw_nil|refine tw_cons rfl ?_ ?_|exact lt_i _ _|exact lt_p6s _ _|exact lt_nil|refine Lt.clo _ _ ?_)
    ·repeat' (first|exact hw_nil)
  ·have f1:=inlt hlt
   repeat' (first|simp only [go_sem,↓reduceIte,Nat.reduceLT,Nat.reduceEqDiff,Nat.reduceAdd,reduceCtorEq,Int.reduceNeg,f1])
   all_goals (refine leaf_i ?_; exact (fidx_none hlt (by omega) hh).symm)
theorem c_cfpt (l : List P6) (hl : l.length ≤ maxLen) : PCall Tryz.prog 256 [.sl (l.map P6.v),.clo 257 []] (.b (decide (0 ≤ fidx l.length (p6okI l)))):=by
 refine pcall_of hm Tryz.func256 rfl (by kernel_rfl) (by rw [Tryz.ntmps256]; exact Nat.le_of_ble_eq_true rfl) (lt_cons (lt_p6s _ _) (lt_cons (.clo _ _ lt_nil) lt_nil)) (lt_b _ _) ?_
 rw [Tryz.ntmps256,Tryz.results256]
 have i1 : HasC Tryz.prog 143 [.sl (l.map P6.v),.clo 257 []] (.i (fidx l.length (p6okI l))):=⟨c_ixpt l hl⟩
 generalize fidx l.length (p6okI l) = q at *
 repeat' (first|simp only [go_sem,↓reduceIte,Nat.reduceLT,Nat.reduceEqDiff,Nat.reduceAdd,reduceCtorEq]|refine cst_go ?_)
 all_goals (try rfl)
theorem c_vman (x y : Int) (l : List P6) (hl : l.length ≤ maxLen) : PCall Tryz.prog 161 [.agg [.i x,.i y,.sl (l.map P6.v)]] (.b (mnOk x y l)):=by
 refine pcall_of hm Tryz.func161 rfl (by kernel_rfl) (by rw [Tryz.ntmps161]; exact Nat.le_of_ble_eq_true rfl) (lt_cons (lt_agg (lt_cons (lt_i _ _) (lt_cons (lt_i _ _) (lt_cons (lt_p6s _ _) lt_nil)))) lt_nil) (lt_b _ _) ?_
 rw [Tryz.ntmps161,Tryz.results161]
 have k0 : ((0 : Nat) : Int) = 0:=rfl
 have k1 : ((1 : Nat) : Int) = 1:=rfl
 have k2 : ((2 : Nat) : Int) = 2:=rfl
 have i1 : HasC Tryz.prog 255 [.sl [.i x,.i y]] (.b (satI x && satI y)):=⟨c_sat2 x y⟩
 have i2 : HasC Tryz.prog 256 [.sl (l.map P6.v),.clo 257 []] (.b (decide (0 ≤ fidx l.length (p6okI l)))):=⟨c_cfpt l hl⟩
 by_cases h1 : l.length < 1
 ·have d1 : ((l.length : Int) < 1) = True:=eq_true (by omega)
  have d2 : ((2 : Int) < (l.length : Int)) = False:=eq_false (by omega)
  have d3 : ((l.length : Int) = 2) = False:=eq_false (by omega)
  have g0:=p6_none (l:=l) (i:=0) (by omega)
  have g1:=p6_none (l:=l) (i:=1) (by omega)
  rw [mnH_lo h1]
  repeat' (first|simp only [go_sem,↓reduceIte,Nat.reduceLT,Nat.reduceEqDiff,Nat.reduceAdd,Nat.reduceLeDiff,Nat.reduceMul,reduceCtorEq,Int.reduceLE,Int.reduceToNat,d1,d2,d3,g0,g1,List.getD_nil,List.drop_succ_cons,List.drop_nil]|refine gcst_deadb ?_|refine aext_pick rfl rfl rfl rfl ?_|refine .inl ?_|(refine regOk_go ?_; kernel_rfl))
  all_goals (try omega)
  all_goals (try rfl)
 ·have d1 : ((l.length : Int) < 1) = False:=eq_false (by omega)
  have g0:=p6_getD (l:=l) (i:=0) (by omega)
  by_cases h2 : 2 < l.length
  ·have d2 : ((2 : Int) < (l.length : Int)) = True:=eq_true (by omega)
   have d3 : ((l.length : Int) = 2) = False:=eq_false (by omega)
   have g1:=p6_getD (l:=l) (i:=1) (by omega)
   rw [mnH_hi h2]
   repeat' (first|simp only [go_sem,↓reduceIte,Nat.reduceLT,Nat.reduceEqDiff,Nat.reduceAdd,Nat.reduceLeDiff,Nat.reduceMul,reduceCtorEq,Int.reduceLE,Int.reduceToNat,d1,d2,d3,g0,g1,List.drop_succ_cons,List.drop_nil]|refine gcst_deadb ?_|(refine regOk_go ?_; kernel_rfl))
   all_goals (try omega)
   all_goals (try rfl)
  ·have d2 : ((2 : Int) < (l.length : Int)) = False:=eq_false (by omega)
   by_cases h3 : l.length = 2
   ·have d3 : ((l.length : Int) = 2) = True:=eq_true (by omega)
    have g1:=p6_getD (l:=l) (i:=1) (by omega)
    have d4 : ((0 : Int) < (l.length : Int)) = True:=eq_true (by omega)
    have d5 : ((1 : Int) < (l.length : Int)) = True:=eq_true (by omega)
    have hM:=mnH_2 (x:=x) (y:=y) h3
    rw [← mn_fidx,hM]
    generalize fidx l.length (p6okI l) = q at *
    by_cases h4 : (l.getD 0 P6.o).d = (l.getD 1 P6.o).d
    ·have d6 : ((l.getD 0 P6.o).d = (l.getD 1 P6.o).d) = True:=eq_true h4
     rw [decide_eq_true h4]
     repeat' (first|simp only [go_sem,↓reduceIte,Nat.reduceLT,Nat.reduceEqDiff,Nat.reduceAdd,Nat.reduceLeDiff,Nat.reduceMul,reduceCtorEq,Int.reduceLE,Int.reduceToNat,d1,d2,d3,g0,g1,List.drop_succ_cons,List.drop_nil,d4,d5,d6]|refine gcst_deadb ?_|(refine regOk_go ?_; kernel_rfl))
     all_goals (try omega)
     all_goals (try rfl)
    ·have d6 : ((l.getD 0 P6.o).d = (l.getD 1 P6.o).d) = False:=eq_false h4
     rw [decide_eq_false h4]
     repeat' (first|simp only [go_sem,↓reduceIte,Nat.reduceLT,Nat.reduceEqDiff,Nat.reduceAdd,Nat.reduceLeDiff,Nat.reduceMul,reduceCtorEq,Int.reduceLE,Int.reduceToNat,d1,d2,d3,g0,g1,List.drop_succ_cons,List.drop_nil,d4,d5,d6]|refine cst_go ?_|refine gcst_go ?_|(refine regOk_go ?_; kernel_rfl)|refine acond_split (fun _=>?_) (fun _=>?_)|refine And.intro ?_ ?_)
     all_goals (try omega)
     all_goals (try rfl)
     all_goals (rename_i hc; refine leaf_b ?_; revert hc; cases satI x <;> cases satI y <;> simp)
   ·have d3 : ((l.length : Int) = 2) = False:=eq_false (by omega)
    have g1:=p6_none (l:=l) (i:=1) (by omega)
    have hM:=mnH_1 (x:=x) (y:=y) (l:=l) (by omega)
    rw [← mn_fidx,hM]
    generalize fidx l.length (p6okI l) = q at *
    repeat' (first|simp only [go_sem,↓reduceIte,Nat.reduceLT,Nat.reduceEqDiff,Nat.reduceAdd,Nat.reduceLeDiff,Nat.reduceMul,reduceCtorEq,Int.reduceLE,Int.reduceToNat,d1,d2,d3,g0,g1,List.getD_nil,List.drop_succ_cons,List.drop_nil]|refine cst_go ?_|refine gcst_go ?_|refine .inr (.inr (aext_pickf rfl rfl rfl rfl ?_))|refine .inl ?_|(refine regOk_go ?_; kernel_rfl)|refine acond_split (fun _=>?_) (fun _=>?_)|refine And.intro ?_ ?_)
    all_goals (try omega)
    all_goals (try rfl)
    all_goals (rename_i hc; refine leaf_b ?_; revert hc; cases satI x <;> cases satI y <;> simp)
theorem rp6 (p : P6) : (((!inR p.e 0 536870911 || !inR p.f (-536870911) 536870911) || !(satI p.a && satI p.b)) || !(satI p.c && satI p.d)) = !p6ok p:=by
 unfold p6ok
 rw [show inR p.e 0 536870911 = (decide (0 ≤ p.e) && satI p.e) by unfold satI inR; rw [Bool.eq_iff_iff]; simp; omega,show inR p.f (-536870911) 536870911 = satI p.f from rfl]
 cases decide (0 ≤ p.e) <;> cases satI p.a <;> cases satI p.b <;> cases satI p.c <;> cases satI p.d <;> cases satI p.e <;> cases satI p.f <;> rfl
theorem mn_all {x y : Int} {l : List P6} (h : mnH x y l = true) : mnOk x y l = (List.range l.length).all (p6okI l):=by unfold mnOk; rw [h,Bool.true_and]
theorem mn_no {x y : Int} {l : List P6} (h : mnH x y l = false) : mnOk x y l = false:=by unfold mnOk; rw [h,Bool.false_and]
theorem c_rvpts (x y : Int) (l : List P6) (hl : l.length ≤ maxLen) : PCall Tryz.prog 133 [.agg [.i x,.i y,.sl (l.map P6.v)]] (.b (mnOk x y l)):=by
 refine pcall_of hm Tryz.func133 rfl (by kernel_rfl) (by rw [Tryz.ntmps133]; exact Nat.le_of_ble_eq_true rfl) (lt_cons (lt_agg (lt_cons (lt_i _ _) (lt_cons (lt_i _ _) (lt_cons (lt_p6s _ _) lt_nil)))) lt_nil) (lt_b _ _) ?_
 rw [Tryz.ntmps133,Tryz.results133]
 have k0 : ((0 : Nat) : Int) = 0:=rfl
 have k1 : ((1 : Nat) : Int) = 1:=rfl
 have k2 : ((2 : Nat) : Int) = 2:=rfl
 by_cases h1 : l.length < 1
 ·have d1 : ((l.length : Int) < 1) = True:=eq_true (by omega)
  have d2 : ((2 : Int) < (l.length : Int)) = False:=eq_false (by omega)
  have d3 : ((l.length : Int) = 2) = False:=eq_false (by omega)
  have g0:=p6_none (l:=l) (i:=0) (by omega)
  have g1:=p6_none (l:=l) (i:=1) (by omega)
  rw [mnH_lo h1]
  repeat' (first|simp only [go_sem,↓reduceIte,Nat.reduceLT,Nat.reduceEqDiff,Nat.reduceAdd,Nat.reduceLeDiff,reduceCtorEq,Int.reduceLE,Int.reduceNeg,Int.reduceToNat,d1,d2,d3,g0,g1,List.getD_nil,List.drop_succ_cons,List.drop_nil]|refine gcst_go ?_|refine aext_pick rfl rfl rfl rfl ?_|refine .inl ?_|(refine regOk_go ?_; kernel_rfl))
  all_goals (try omega)
  all_goals (try rfl)
 ·have d1 : ((l.length : Int) < 1) = False:=eq_false (by omega)
  have g0:=p6_getD (l:=l) (i:=0) (by omega)
  by_cases h2 : 2 < l.length
  ·have d2 : ((2 : Int) < (l.length : Int)) = True:=eq_true (by omega)
   have d3 : ((l.length : Int) = 2) = False:=eq_false (by omega)
   have g1:=p6_getD (l:=l) (i:=1) (by omega)
   rw [mnH_hi h2]
   repeat' (first|simp only [go_sem,↓reduceIte,Nat.reduceLT,Nat.reduceEqDiff,Nat.reduceAdd,Nat.reduceLeDiff,reduceCtorEq,Int.reduceLE,Int.reduceNeg,Int.reduceToNat,d1,d2,d3,g0,g1,List.drop_succ_cons]|refine gcst_go ?_|(refine regOk_go ?_; kernel_rfl))
   all_goals (try omega)
   all_goals (try rfl)
  ·have d2 : ((2 : Int) < (l.length : Int)) = False:=eq_false (by omega)
   by_cases h3 : l.length = 2
   ·have d3 : ((l.length : Int) = 2) = True:=eq_true (by omega)
    have g1:=p6_getD (l:=l) (i:=1) (by omega)
    have d4 : ((0 : Int) < (l.length : Int)) = True:=eq_true (by omega)
    have d5 : ((1 : Int) < (l.length : Int)) = True:=eq_true (by omega)
    have hM:=mnH_2 (x:=x) (y:=y) h3
    by_cases h4 : (l.getD 0 P6.o).d = (l.getD 1 P6.o).d
    ·have d6 : ((l.getD 0 P6.o).d = (l.getD 1 P6.o).d) = True:=eq_true h4
     rw [mn_no (by rw [hM,decide_eq_true h4]; rfl)]
     repeat' (first|simp only [go_sem,↓reduceIte,Nat.reduceLT,Nat.reduceEqDiff,Nat.reduceAdd,Nat.reduceLeDiff,reduceCtorEq,Int.reduceLE,Int.reduceNeg,Int.reduceToNat,d1,d2,d3,g0,g1,List.drop_succ_cons,d4,d5,d6]|refine gcst_go ?_|(refine regOk_go ?_; kernel_rfl))
     all_goals (try omega)
     all_goals (try rfl)
    ·have d6 : ((l.getD 0 P6.o).d = (l.getD 1 P6.o).d) = False:=eq_false h4
     rw [decide_eq_false h4] at hM
     cases hs : (satI x && satI y) with
     | false=>
      rw [mn_no (by rw [hM,hs]; rfl)]
      repeat' (first|simp only [go_sem,↓reduceIte,Nat.reduceLT,Nat.reduceEqDiff,Nat.reduceAdd,Nat.reduceLeDiff,reduceCtorEq,Int.reduceLE,Int.reduceNeg,Int.reduceToNat,d1,d2,d3,g0,g1,List.drop_succ_cons,d4,d5,d6,hs]|refine gcst_go ?_|(refine regOk_go ?_; kernel_rfl))
      all_goals (try omega)
      all_goals (try rfl)
     | true=>
      have hH : mnH x y l = true:=by rw [hM,hs]; rfl
      repeat' (first|simp only [go_sem,↓reduceIte,Nat.reduceLT,Nat.reduceEqDiff,Nat.reduceAdd,Nat.reduceLeDiff,reduceCtorEq,Int.reduceLE,Int.reduceNeg,Int.reduceToNat,d1,d2,d3,g0,g1,List.drop_succ_cons,d4,d5,d6,hs]|refine gcst_go ?_|(refine regOk_go ?_; kernel_rfl)|refine And.intro ?_ ?_)
      all_goals (try omega)
      refine tr_lp hm [1,3] [0] (fun x' : LS (l.length) (p6okI l)=>[(4,.i x'.i)]) (fun x' : LS (l.length) (p6okI l)=>[]) (fun x'=>l.length - x'.i) (LS.start _ _) ?_ ?_ ?_
      ·repeat' (first|exact tw_nil|refine tw_cons rfl ?_ ?_|exact lt_i _ _|exact Lt.pt _ _ (by decide))
      ·repeat' (first|exact hw_nil|refine hw_cons (by decide) rfl bwk_rfl ?_ ?_|exact lt_i _ _|exact lt_p6s _ _|refine lt_agg ?_|exact lt_nil|refine lt_cons ?_ ?_)
      ·rintro ⟨i,hi,hh⟩
       by_cases hlt : i < l.length
       ·have e1:=ilt hlt
        have e2:=isucc hlt hl
        have e3:=p6_getD hlt
        have e6:=rp6 (l.getD i P6.o)
        repeat' (first|simp only [go_sem,↓reduceIte,Nat.reduceLT,Nat.reduceEqDiff,Nat.reduceAdd,Nat.reduceLeDiff,reduceCtorEq,Int.reduceNeg,e1,e2,e3,e6]|refine cst_go ?_|refine gcst_go ?_|refine acond_split (fun _=>?_) (fun _=>?_))
        all_goals (try omega)
        ·rename_i hc
         refine leaf_b ?_; rw [mn_all hH]; exact (LS.fail hlt (by unfold p6okI; simpa using hc)).symm
        ·rename_i hc
         refine ⟨LS.next hlt hh (by unfold p6okI; simpa using hc),Nat.sub_lt_sub_left hlt (Nat.lt_succ_self _),wk_go (by decide) ?_ ?_⟩
         ·repeat' (first|exact tw_nil|refine tw_cons rfl ?_ ?_|exact lt_i _ _|exact Lt.pt _ _ (by decide))
         ·repeat' (first|exact hw_nil|refine hw_cons (by decide) rfl bwk_rfl ?_ ?_|exact lt_i _ _|exact lt_p6s _ _|refine lt_agg ?_|exact lt_nil|refine lt_cons ?_ ?_)
       ·have f1:=inlt hlt
        have hd:=LS.done hlt hh
        repeat' (first|simp only [go_sem,↓reduceIte,Nat.reduceLT,Nat.reduceEqDiff,Nat.reduceAdd,Int.reduceNeg,f1])
        all_goals (refine leaf_b ?_; rw [mn_all hH,hd])
   ·have d3 : ((l.length : Int) = 2) = False:=eq_false (by omega)
    have g1:=p6_none (l:=l) (i:=1) (by omega)
    have hM:=mnH_1 (x:=x) (y:=y) (l:=l) (by omega)
    cases hs : (satI x && satI y) with
    | false=>
     rw [mn_no (by rw [hM,hs])]
     repeat' (first|simp only [go_sem,↓reduceIte,Nat.reduceLT,Nat.reduceEqDiff,Nat.reduceAdd,Nat.reduceLeDiff,reduceCtorEq,Int.reduceLE,Int.reduceNeg,Int.reduceToNat,d1,d2,d3,g0,g1,List.getD_nil,List.drop_succ_cons,List.drop_nil,hs]|refine gcst_go ?_|refine .inr (.inr (aext_pickf rfl rfl rfl rfl ?_))|refine .inl ?_|(refine regOk_go ?_; kernel_rfl))
     all_goals (try omega)
     all_goals (try rfl)
    | true=>
     have hH : mnH x y l = true:=by rw [hM,hs]
     repeat' (first|simp only [go_sem,↓reduceIte,Nat.reduceLT,Nat.reduceEqDiff,Nat.reduceAdd,Nat.reduceLeDiff,reduceCtorEq,Int.reduceLE,Int.reduceNeg,Int.reduceToNat,d1,d2,d3,g0,g1,List.getD_nil,List.drop_succ_cons,List.drop_nil,hs]|refine gcst_go ?_|refine .inr (.inr (aext_pickf rfl rfl rfl rfl ?_))|refine .inl ?_|(refine regOk_go ?_; kernel_rfl)|refine And.intro ?_ ?_)
     all_goals (try omega)
     refine tr_lp hm [1,3] [0] (fun x' : LS (l.length) (p6okI l)=>[(4,.i x'.i)]) (fun x' : LS (l.length) (p6okI l)=>[]) (fun x'=>l.length - x'.i) (LS.start _ _) ?_ ?_ ?_
     ·repeat' (first|exact tw_nil|refine tw_cons rfl ?_ ?_|exact lt_i _ _|exact Lt.pt _ _ (by decide))
     ·repeat' (first|exact hw_nil|refine hw_cons (by decide) rfl bwk_rfl ?_ ?_|exact lt_i _ _|exact lt_p6s _ _|refine lt_agg ?_|exact lt_nil|refine lt_cons ?_ ?_)
     ·rintro ⟨i,hi,hh⟩
      by_cases hlt : i < l.length
      ·have e1:=ilt hlt
       have e2:=isucc hlt hl
       have e3:=p6_getD hlt
       have e6:=rp6 (l.getD i P6.o)
       repeat' (first|simp only [go_sem,↓reduceIte,Nat.reduceLT,Nat.reduceEqDiff,Nat.reduceAdd,Nat.reduceLeDiff,reduceCtorEq,Int.reduceNeg,e1,e2,e3,e6]|refine cst_go ?_|refine gcst_go ?_|refine acond_split (fun _=>?_) (fun _=>?_))
       all_goals (try omega)
       ·rename_i hc
        refine leaf_b ?_; rw [mn_all hH]; exact (LS.fail hlt (by unfold p6okI; simpa using hc)).symm
       ·rename_i hc
        refine ⟨LS.next hlt hh (by unfold p6okI; simpa using hc),Nat.sub_lt_sub_left hlt (Nat.lt_succ_self _),wk_go (by decide) ?_ ?_⟩
        ·repeat' (first|exact tw_nil|refine tw_cons rfl ?_ ?_|exact lt_i _ _|exact Lt.pt _ _ (by decide))
        ·repeat' (first|exact hw_nil|refine hw_cons (by decide) rfl bwk_rfl ?_ ?_|exact lt_i _ _|exact lt_p6s _ _|refine lt_agg ?_|exact lt_nil|refine lt_cons ?_ ?_)
      ·have f1:=inlt hlt
       have hd:=LS.done hlt hh
       repeat' (first|simp only [go_sem,↓reduceIte,Nat.reduceLT,Nat.reduceEqDiff,Nat.reduceAdd,Int.reduceNeg,f1])
       all_goals (refine leaf_b ?_; rw [mn_all hH,hd])
end Go.Proofs.YtplmagdbnbijlaaGreat
/-
 FindBody,fixtures and bodies that exist,keys of contacts. Conditions: none.
-/
namespace Go.Proofs.YtplmagdbnbijlaaGreat
open Go.RowKit Go.AL Go.Carom
theorem c_rfb (w : Wd) (hb : w.bs.length ≤ maxLen) (id : Int) : PCall Tryz.prog 40 [.agg [.i w.ts,.i w.gx,.i w.gy,.i w.it,.i w.ss,.sl (w.bs.map Bd.v),.sl (w.js.map Jt.v),.sl (w.cs.map Ct.v),.sl (w.ov.map K4.v),.i w.nid,.i w.fr],.i id] (.i (fbK w.bs id)):=by
 refine pcall_of hm Tryz.func40 rfl (by kernel_rfl) (by rw [Tryz.ntmps40]; exact Nat.le_of_ble_eq_true rfl) (lt_cons (lt_agg (lt_cons (lt_i _ _) (lt_cons (lt_i _ _) (lt_cons (lt_i _ _) (lt_cons (lt_i _ _) (lt_cons (lt_i _ _) (lt_cons (lt_bds _ _) (lt_cons (lt_jts _ _) (lt_cons (lt_cts _ _) (lt_cons (lt_k4s _ _) (lt_cons (lt_i _ _) (lt_cons (lt_i _ _) lt_nil)))))))))))) (lt_cons (lt_i _ _) lt_nil)) (lt_i _ _) ?_
 rw [Tryz.ntmps40,Tryz.results40]
 repeat' (first|simp only [go_sem,↓reduceIte,Nat.reduceLT,Nat.reduceAdd,Int.reduceNeg])
 refine tr_lp hm [1,2] [0] (fun x' : LS (w.bs.length) (fun i=>!decide ((w.bs.getD i Bd.o).id = id))=>[(5,.i x'.i)]) (fun x' : LS (w.bs.length) (fun i=>!decide ((w.bs.getD i Bd.o).id = id))=>[]) (fun x'=>w.bs.length - x'.i) (LS.start _ _) ?_ ?_ ?_
 ·repeat' (first|exact tw_nil|refine tw_cons rfl ?_ ?_|exact lt_i _ _|exact Lt.pt _ _ (by decide))
 ·repeat' (first|exact hw_nil|refine hw_cons (by decide) rfl bwk_rfl ?_ ?_|exact lt_i _ _|exact lt_bds _ _|exact lt_jts _ _|exact lt_cts _ _|exact lt_k4s _ _|refine lt_agg ?_|exact lt_nil|refine lt_cons ?_ ?_)
 ·rintro ⟨i,hi,hh⟩
  by_cases hlt : i < w.bs.length
  ·have e1:=ilt hlt
   have e2:=isucc hlt hb
   have e3:=bd_getD hlt
   repeat' (first|simp only [go_sem,↓reduceIte,Nat.reduceLT,Nat.reduceEqDiff,Nat.reduceAdd,Nat.reduceLeDiff,reduceCtorEq,Int.reduceNeg,e1,e2,e3]|refine acond_split (fun _=>?_) (fun _=>?_))
   all_goals (try omega)
   ·rename_i hc
    refine leaf_i ?_
    exact (fidx_hit hlt hh (by have h' : decide ((w.bs.getD i Bd.o).id = id) = _:=hc; rw [h']; rfl)).symm
   ·rename_i hc
    refine ⟨LS.next hlt hh (by have h' : decide ((w.bs.getD i Bd.o).id = id) = _:=hc; rw [h']; rfl),Nat.sub_lt_sub_left hlt (Nat.lt_succ_self _),wk_go (by decide) ?_ ?_⟩
    ·repeat' (first|exact tw_nil|refine tw_cons rfl ?_ ?_|exact lt_i _ _|exact Lt.pt _ _ (by decide))
    ·repeat' (first|exact hw_nil|refine hw_cons (by decide) rfl bwk_rfl ?_ ?_|exact lt_i _ _|exact lt_bds _ _|exact lt_jts _ _|exact lt_cts _ _|exact lt_k4s _ _|refine lt_agg ?_|exact lt_nil|refine lt_cons ?_ ?_)
  ·have f1:=inlt hlt
   repeat' (first|simp only [go_sem,↓reduceIte,Nat.reduceLT,Nat.reduceEqDiff,Nat.reduceAdd,Nat.reduceLeDiff,reduceCtorEq,Int.reduceNeg,f1])
   all_goals (refine leaf_i ?_; exact (fidx_none hlt (by omega) hh).symm)
theorem c_fb (w : Wd) (hb : w.bs.length ≤ maxLen) (id : Int) : PCall Tryz.prog 126 [.agg [.i w.ts,.i w.gx,.i w.gy,.i w.it,.i w.ss,.sl (w.bs.map Bd.v),.sl (w.js.map Jt.v),.sl (w.cs.map Ct.v),.sl (w.ov.map K4.v),.i w.nid,.i w.fr],.i id] (.i (fbK w.bs id)):=by
 refine pcall_of hm Tryz.func126 rfl (by kernel_rfl) (by rw [Tryz.ntmps126]; exact Nat.le_of_ble_eq_true rfl) (lt_cons (lt_agg (lt_cons (lt_i _ _) (lt_cons (lt_i _ _) (lt_cons (lt_i _ _) (lt_cons (lt_i _ _) (lt_cons (lt_i _ _) (lt_cons (lt_bds _ _) (lt_cons (lt_jts _ _) (lt_cons (lt_cts _ _) (lt_cons (lt_k4s _ _) (lt_cons (lt_i _ _) (lt_cons (lt_i _ _) lt_nil)))))))))))) (lt_cons (lt_i _ _) lt_nil)) (lt_i _ _) ?_
 rw [Tryz.ntmps126,Tryz.results126]
 repeat' (first|with_reducible (first|exact HBs.nil|refine HBs.cons (by decide) ?_ ?_|refine BOk.var ?_|exact Lts.nil|refine Lts.cons ?_ ?_|exact lt_i _ _|exact Lt.pt _ _ (by decide)|exact lt_bds _ _|exact lt_jts _ _|exact lt_cts _ _|exact lt_k4s _ _|refine lt_agg ?_|exact lt_nil|refine lt_cons ?_ ?_|refine Lt.clo _ _ ?_)|simp only [go_sem,↓reduceIte,Nat.reduceLT,Nat.reduceEqDiff,Nat.reduceAdd,Nat.reduceLeDiff,Nat.reduceSub,reduceCtorEq,Int.reduceNeg]|refine cst_same (f:=194) (.i (fbK w.bs id)) 30 hm Tryz.func194 rfl (by kernel_rfl) Tryz.ntmps194 Tryz.results194 rfl ?_ ?_ ?_ rfl rfl ?_ (by decide) ?_)
 refine tr_lp hm [0,1,7] [0,1,2] (fun x' : LS (w.bs.length) (fun i=>!decide ((w.bs.getD i Bd.o).id = id))=>[(8,.i x'.i)]) (fun x' : LS (w.bs.length) (fun i=>!decide ((w.bs.getD i Bd.o).id = id))=>[]) (fun x'=>w.bs.length - x'.i) (LS.start _ _) ?_ ?_ ?_
 ·repeat' (first|exact tw_nil|refine tw_cons rfl ?_ ?_|exact lt_i _ _|exact Lt.pt _ _ (by decide)|exact lt_bds _ _|exact lt_nil|refine lt_cons ?_ ?_|refine Lt.clo _ _ ?_)
 ·repeat' (first|exact hw_nil|refine hw_cons (by decide) rfl bwk_rfl ?_ ?_|exact lt_i _ _|exact lt_bds _ _|exact lt_jts _ _|exact lt_cts _ _|exact lt_k4s _ _|refine lt_agg ?_|exact lt_nil|refine lt_cons ?_ ?_)
 ·rintro ⟨i,hi,hh⟩
  by_cases hlt : i < w.bs.length
  ·have e1:=ilt hlt
   have e2:=isucc hlt hb
   have e3:=bd_getD hlt
   repeat' (first|with_reducible (first|exact HBs.nil|refine HBs.cons (by decide) ?_ ?_|refine BOk.var ?_|exact Lts.nil|refine Lts.cons ?_ ?_|exact lt_i _ _|exact Lt.pt _ _ (by decide)|exact lt_b _ _|exact lt_fxs _ _|exact lt_bds _ _|exact lt_jts _ _|exact lt_cts _ _|exact lt_k4s _ _|refine lt_agg ?_|exact lt_nil|refine lt_cons ?_ ?_)|simp only [go_sem,↓reduceIte,Nat.reduceLT,Nat.reduceEqDiff,Nat.reduceAdd,Nat.reduceLeDiff,Nat.reduceSub,reduceCtorEq,Int.reduceNeg,e1,e2,e3]|apply cst_in (f:=195) hm Tryz.func195 rfl (by kernel_rfl) Tryz.ntmps195 Tryz.results195 rfl|refine acond_split (fun _=>?_) (fun _=>?_)|exact endJ_le rfl rfl|exact HSub.nil|refine HSub.cons rfl ?_|exact ⟨rfl,endJ_go rfl,rfl⟩|refine keys_go rfl|refine keep_go rfl|refine And.intro ?_ ?_)
   all_goals (try omega)
   ·rename_i hc
    refine leaf_i ?_
    exact (fidx_hit hlt hh (by have h' : decide ((w.bs.getD i Bd.o).id = id) = _:=hc; rw [h']; rfl)).symm
   ·rename_i hc
    refine ⟨LS.next hlt hh (by have h' : decide ((w.bs.getD i Bd.o).id = id) = _:=hc; rw [h']; rfl),Nat.sub_lt_sub_left hlt (Nat.lt_succ_self _),wk_go (by decide) ?_ ?_⟩
    ·repeat' (first|exact tw_nil|refine tw_cons rfl ?_ ?_|exact lt_i _ _|exact Lt.pt _ _ (by decide)|exact lt_bds _ _|exact lt_nil|refine lt_cons ?_ ?_|refine Lt.clo _ _ ?_)
    ·repeat' (first|exact hw_nil|refine hw_cons (by decide) rfl bwk_rfl ?_ ?_|exact lt_i _ _|exact lt_bds _ _|exact lt_jts _ _|exact lt_cts _ _|exact lt_k4s _ _|refine lt_agg ?_|exact lt_nil|refine lt_cons ?_ ?_)
  ·have f1:=inlt hlt
   repeat' (first|simp only [go_sem,↓reduceIte,Nat.reduceLT,Nat.reduceEqDiff,Nat.reduceAdd,reduceCtorEq,Int.reduceNeg,f1]|exact endJ_le rfl rfl|exact HSub.nil|refine HSub.cons rfl ?_|refine And.intro ?_ ?_)
   all_goals (refine leaf_i ?_; exact (fidx_none hlt (by omega) hh).symm)
theorem c_fxex (w : Wd) (hb : w.bs.length ≤ maxLen) (k : K4) (hk : k4ok k = true) : PCall Tryz.prog 165 [.agg [.i w.ts,.i w.gx,.i w.gy,.i w.it,.i w.ss,.sl (w.bs.map Bd.v),.sl (w.js.map Jt.v),.sl (w.cs.map Ct.v),.sl (w.ov.map K4.v),.i w.nid,.i w.fr],.agg [.i k.a,.i k.fa,.i k.b,.i k.fb]] (.b (fxEx w.bs k)):=by
 refine pcall_of hm Tryz.func165 rfl (by kernel_rfl) (by rw [Tryz.ntmps165]; exact Nat.le_of_ble_eq_true rfl) (lt_cons (lt_agg (lt_cons (lt_i _ _) (lt_cons (lt_i _ _) (lt_cons (lt_i _ _) (lt_cons (lt_i _ _) (lt_cons (lt_i _ _) (lt_cons (lt_bds _ _) (lt_cons (lt_jts _ _) (lt_cons (lt_cts _ _) (lt_cons (lt_k4s _ _) (lt_cons (lt_i _ _) (lt_cons (lt_i _ _) lt_nil)))))))))))) (lt_cons (lt_agg (lt_cons (lt_i _ _) (lt_cons (lt_i _ _) (lt_cons (lt_i _ _) (lt_cons (lt_i _ _) lt_nil))))) lt_nil)) (lt_b _ _) ?_
 rw [Tryz.ntmps165,Tryz.results165]
 have i1 : HasC Tryz.prog 126 [.agg [.i w.ts,.i w.gx,.i w.gy,.i w.it,.i w.ss,.sl (w.bs.map Bd.v),.sl (w.js.map Jt.v),.sl (w.cs.map Ct.v),.sl (w.ov.map K4.v),.i w.nid,.i w.fr],.i k.a] (.i (fbK w.bs k.a)):=⟨c_fb w hb k.a⟩
 have i2 : HasC Tryz.prog 126 [.agg [.i w.ts,.i w.gx,.i w.gy,.i w.it,.i w.ss,.sl (w.bs.map Bd.v),.sl (w.js.map Jt.v),.sl (w.cs.map Ct.v),.sl (w.ov.map K4.v),.i w.nid,.i w.fr],.i k.b] (.i (fbK w.bs k.b)):=⟨c_fb w hb k.b⟩
 have hfa : (0 : Int) ≤ k.fa ∧ (0 : Int) ≤ k.fb:=by unfold k4ok at hk; simp only [Bool.and_eq_true,inR_iff] at hk; omega
 have hq : fxEx w.bs k = (exB w.bs k.a k.fa && exB w.bs k.b k.fb):=rfl
 rw [hq,exB_b,exB_b,decide_eq_true hfa.1,decide_eq_true hfa.2]
 clear hq
 have h1:=fbK_lt w.bs k.a
 have h2:=fbK_lt w.bs k.b
 generalize fbK w.bs k.a = a at *
 generalize fbK w.bs k.b = b at *
 by_cases hp : 0 ≤ a
 ·have pa : (0 ≤ a) = True:=eq_true hp
  have pb : (a < (w.bs.length : Int)) = True:=eq_true (by omega)
  have pd:=bd_getD (l:=w.bs) (i:=a.toNat) (by omega)
  have ph : decide (0 ≤ a) = true:=decide_eq_true hp
  by_cases hq : 0 ≤ b
  ·have qa : (0 ≤ b) = True:=eq_true hq
   have qb : (b < (w.bs.length : Int)) = True:=eq_true (by omega)
   have qd:=bd_getD (l:=w.bs) (i:=b.toNat) (by omega)
   have qh : decide (0 ≤ b) = true:=decide_eq_true hq
   rw [ph,qh]
   repeat' (first|simp only [go_sem,↓reduceIte,Nat.reduceLT,Nat.reduceEqDiff,Nat.reduceAdd,Nat.reduceLeDiff,reduceCtorEq,pa,pb,pd,qa,qb,qd,List.drop_succ_cons]|refine cst_go ?_|(refine regOk_go ?_; kernel_rfl)|refine And.intro ?_ ?_)
   all_goals (try omega)
   all_goals (try rfl)
   all_goals (try (refine leaf_b ?_; simp; done))
  ·have qa : (0 ≤ b) = False:=eq_false hq
   have qh : decide (0 ≤ b) = false:=decide_eq_false hq
   by_cases zq : b.toNat < w.bs.length
   ·have qd:=bd_getD (l:=w.bs) (i:=b.toNat) zq
    rw [ph,qh]
    repeat' (first|simp only [go_sem,↓reduceIte,Nat.reduceLT,Nat.reduceEqDiff,Nat.reduceAdd,Nat.reduceLeDiff,reduceCtorEq,pa,pb,pd,qa,qd,List.drop_succ_cons]|refine cst_go ?_|(refine regOk_go ?_; kernel_rfl)|refine And.intro ?_ ?_)
    all_goals (try omega)
    all_goals (try rfl)
    all_goals (try (refine leaf_b ?_; simp; done))
   ·have qd:=bd_none (l:=w.bs) (i:=b.toNat) zq
    rw [ph,qh]
    repeat' (first|simp only [go_sem,↓reduceIte,Nat.reduceLT,Nat.reduceEqDiff,Nat.reduceAdd,Nat.reduceLeDiff,reduceCtorEq,pa,pb,pd,qa,qd,List.getD_nil,List.drop_succ_cons,List.drop_nil]|refine cst_go ?_|refine aext_pickf rfl rfl rfl rfl ?_|refine .inl ?_|(refine regOk_go ?_; kernel_rfl)|refine And.intro ?_ ?_)
    all_goals (try omega)
    all_goals (try rfl)
    all_goals (try (refine leaf_b ?_; simp; done))
 ·have pa : (0 ≤ a) = False:=eq_false hp
  have ph : decide (0 ≤ a) = false:=decide_eq_false hp
  by_cases zp : a.toNat < w.bs.length
  ·have pd:=bd_getD (l:=w.bs) (i:=a.toNat) zp
   by_cases hq : 0 ≤ b
   ·have qa : (0 ≤ b) = True:=eq_true hq
    have qb : (b < (w.bs.length : Int)) = True:=eq_true (by omega)
    have qd:=bd_getD (l:=w.bs) (i:=b.toNat) (by omega)
    have qh : decide (0 ≤ b) = true:=decide_eq_true hq
    rw [ph,qh]
    repeat' (first|simp only [go_sem,↓reduceIte,Nat.reduceLT,Nat.reduceEqDiff,Nat.reduceAdd,Nat.reduceLeDiff,reduceCtorEq,pa,pd,qa,qb,qd,List.drop_succ_cons]|refine cst_go ?_|(refine regOk_go ?_; kernel_rfl)|refine And.intro ?_ ?_)
    all_goals (try omega)
    all_goals (try rfl)
    all_goals (try (refine leaf_b ?_; simp; done))
   ·have qa : (0 ≤ b) = False:=eq_false hq
    have qh : decide (0 ≤ b) = false:=decide_eq_false hq
    by_cases zq : b.toNat < w.bs.length
    ·have qd:=bd_getD (l:=w.bs) (i:=b.toNat) zq
     rw [ph,qh]
     repeat' (first|simp only [go_sem,↓reduceIte,Nat.reduceLT,Nat.reduceEqDiff,Nat.reduceAdd,Nat.reduceLeDiff,reduceCtorEq,pa,pd,qa,qd,List.drop_succ_cons]|refine cst_go ?_|(refine regOk_go ?_; kernel_rfl)|refine And.intro ?_ ?_)
     all_goals (try omega)
     all_goals (try rfl)
     all_goals (try (refine leaf_b ?_; simp; done))
    ·have qd:=bd_none (l:=w.bs) (i:=b.toNat) zq
     rw [ph,qh]
     repeat' (first|simp only [go_sem,↓reduceIte,Nat.reduceLT,Nat.reduceEqDiff,Nat.reduceAdd,Nat.reduceLeDiff,reduceCtorEq,pa,pd,qa,qd,List.getD_nil,List.drop_succ_cons,List.drop_nil]|refine cst_go ?_|refine aext_pickf rfl rfl rfl rfl ?_|refine .inl ?_|(refine regOk_go ?_; kernel_rfl)|refine And.intro ?_ ?_)
     all_goals (try omega)
     all_goals (try rfl)
     all_goals (try (refine leaf_b ?_; simp; done))
  ·have pd:=bd_none (l:=w.bs) (i:=a.toNat) zp
   by_cases hq : 0 ≤ b
   ·have qa : (0 ≤ b) = True:=eq_true hq
    have qb : (b < (w.bs.length : Int)) = True:=eq_true (by omega)
    have qd:=bd_getD (l:=w.bs) (i:=b.toNat) (by omega)
    have qh : decide (0 ≤ b) = true:=decide_eq_true hq
    rw [ph,qh]
    repeat' (first|simp only [go_sem,↓reduceIte,Nat.reduceLT,Nat.reduceEqDiff,Nat.reduceAdd,Nat.reduceLeDiff,reduceCtorEq,pa,pd,qa,qb,qd,List.getD_nil,List.drop_succ_cons,List.drop_nil]|refine cst_go ?_|refine aext_pickf rfl rfl rfl rfl ?_|refine .inl ?_|(refine regOk_go ?_; kernel_rfl)|refine And.intro ?_ ?_)
    all_goals (try omega)
    all_goals (try rfl)
    all_goals (try (refine leaf_b ?_; simp; done))
   ·have qa : (0 ≤ b) = False:=eq_false hq
    have qh : decide (0 ≤ b) = false:=decide_eq_false hq
    by_cases zq : b.toNat < w.bs.length
    ·have qd:=bd_getD (l:=w.bs) (i:=b.toNat) zq
     rw [ph,qh]
     repeat' (first|simp only [go_sem,↓reduceIte,Nat.reduceLT,Nat.reduceEqDiff,Nat.reduceAdd,Nat.reduceLeDiff,reduceCtorEq,pa,pd,qa,qd,List.getD_nil,List.drop_succ_cons,List.drop_nil]|refine cst_go ?_|refine aext_pickf rfl rfl rfl rfl ?_|refine .inl ?_|(refine regOk_go ?_; kernel_rfl)|refine And.intro ?_ ?_)
     all_goals (try omega)
     all_goals (try rfl)
     all_goals (try (refine leaf_b ?_; simp; done))
    ·have qd:=bd_none (l:=w.bs) (i:=b.toNat) zq
     rw [ph,qh]
     repeat' (first|simp only [go_sem,↓reduceIte,Nat.reduceLT,Nat.reduceEqDiff,Nat.reduceAdd,Nat.reduceLeDiff,reduceCtorEq,pa,pd,qa,qd,List.getD_nil,List.drop_succ_cons,List.drop_nil]|refine cst_go ?_|refine aext_pickf rfl rfl rfl rfl ?_|refine .inl ?_|(refine regOk_go ?_; kernel_rfl)|refine And.intro ?_ ?_)
     all_goals (try omega)
     all_goals (try rfl)
     all_goals (try (refine leaf_b ?_; simp; done))
theorem c_rex (w : Wd) (hb : w.bs.length ≤ maxLen) (id f : Int) : PCall Tryz.prog 202 [.agg [.i w.ts,.i w.gx,.i w.gy,.i w.it,.i w.ss,.sl (w.bs.map Bd.v),.sl (w.js.map Jt.v),.sl (w.cs.map Ct.v),.sl (w.ov.map K4.v),.i w.nid,.i w.fr],.i id,.i f] (.b (exB w.bs id f)):=by
 refine pcall_of hm Tryz.func202 rfl (by kernel_rfl) (by rw [Tryz.ntmps202]; exact Nat.le_of_ble_eq_true rfl) (lt_cons (lt_agg (lt_cons (lt_i _ _) (lt_cons (lt_i _ _) (lt_cons (lt_i _ _) (lt_cons (lt_i _ _) (lt_cons (lt_i _ _) (lt_cons (lt_bds _ _) (lt_cons (lt_jts _ _) (lt_cons (lt_cts _ _) (lt_cons (lt_k4s _ _) (lt_cons (lt_i _ _) (lt_cons (lt_i _ _) lt_nil)))))))))))) (lt_cons (lt_i _ _) (lt_cons (lt_i _ _) lt_nil))) (lt_b _ _) ?_
 rw [Tryz.ntmps202,Tryz.results202]
 have i1 : HasC Tryz.prog 40 [.agg [.i w.ts,.i w.gx,.i w.gy,.i w.it,.i w.ss,.sl (w.bs.map Bd.v),.sl (w.js.map Jt.v),.sl (w.cs.map Ct.v),.sl (w.ov.map K4.v),.i w.nid,.i w.fr],.i id] (.i (fbK w.bs id)):=⟨c_rfb w hb id⟩
 rw [exB_b]
 have h1:=fbK_lt w.bs id
 generalize fbK w.bs id = a at *
 by_cases hp : 0 ≤ a
 ·have pa : (0 ≤ a) = True:=eq_true hp
  have pb : (a < (w.bs.length : Int)) = True:=eq_true (by omega)
  have pd:=bd_getD (l:=w.bs) (i:=a.toNat) (by omega)
  have ph : decide (0 ≤ a) = true:=decide_eq_true hp
  rw [ph]
  repeat' (first|simp only [go_sem,↓reduceIte,Nat.reduceLT,Nat.reduceEqDiff,Nat.reduceAdd,Nat.reduceLeDiff,reduceCtorEq,pa,pb,pd,List.drop_succ_cons]|refine cst_go ?_)
  all_goals (try omega)
  all_goals (try rfl)
 ·have pa : (0 ≤ a) = False:=eq_false hp
  have ph : decide (0 ≤ a) = false:=decide_eq_false hp
  by_cases zp : a.toNat < w.bs.length
  ·have pd:=bd_getD (l:=w.bs) (i:=a.toNat) zp
   rw [ph]
   repeat' (first|simp only [go_sem,↓reduceIte,Nat.reduceLT,Nat.reduceEqDiff,Nat.reduceAdd,Nat.reduceLeDiff,reduceCtorEq,pa,pd,List.drop_succ_cons]|refine cst_go ?_)
   all_goals (try omega)
   all_goals (try rfl)
  ·have pd:=bd_none (l:=w.bs) (i:=a.toNat) zp
   rw [ph]
   repeat' (first|simp only [go_sem,↓reduceIte,Nat.reduceLT,Nat.reduceEqDiff,Nat.reduceAdd,Nat.reduceLeDiff,reduceCtorEq,pa,pd,List.getD_nil,List.drop_succ_cons,List.drop_nil]|refine cst_go ?_|refine aext_pickf rfl rfl rfl rfl ?_|refine .inl ?_)
   all_goals (try omega)
   all_goals (try rfl)
theorem c_res (w : Wd) (hb : w.bs.length ≤ maxLen) (l : List K4) (hl : l.length ≤ maxLen) : PCall Tryz.prog 132 [.agg [.i w.ts,.i w.gx,.i w.gy,.i w.it,.i w.ss,.sl (w.bs.map Bd.v),.sl (w.js.map Jt.v),.sl (w.cs.map Ct.v),.sl (w.ov.map K4.v),.i w.nid,.i w.fr],.sl (l.map K4.v)] (.b ((List.range l.length).all (fxExI w.bs l))):=by
 refine pcall_of hm Tryz.func132 rfl (by kernel_rfl) (by rw [Tryz.ntmps132]; exact Nat.le_of_ble_eq_true rfl) (lt_cons (lt_agg (lt_cons (lt_i _ _) (lt_cons (lt_i _ _) (lt_cons (lt_i _ _) (lt_cons (lt_i _ _) (lt_cons (lt_i _ _) (lt_cons (lt_bds _ _) (lt_cons (lt_jts _ _) (lt_cons (lt_cts _ _) (lt_cons (lt_k4s _ _) (lt_cons (lt_i _ _) (lt_cons (lt_i _ _) lt_nil)))))))))))) (lt_cons (lt_k4s _ _) lt_nil)) (lt_b _ _) ?_
 rw [Tryz.ntmps132,Tryz.results132]
 repeat' (first|simp only [go_sem,↓reduceIte,Nat.reduceLT,Nat.reduceAdd])
 refine tr_lp hm [1,2] [0] (fun x' : LS (l.length) (fxExI w.bs l)=>[(5,.i x'.i)]) (fun x' : LS (l.length) (fxExI w.bs l)=>[]) (fun x'=>l.length - x'.i) (LS.start _ _) ?_ ?_ ?_
 ·repeat' (first|exact tw_nil|refine tw_cons rfl ?_ ?_|exact lt_i _ _|exact Lt.pt _ _ (by decide)|exact lt_k4s _ _)
 ·repeat' (first|exact hw_nil|refine hw_cons (by decide) rfl bwk_rfl ?_ ?_|exact lt_i _ _|exact lt_bds _ _|exact lt_jts _ _|exact lt_cts _ _|exact lt_k4s _ _|refine lt_agg ?_|exact lt_nil|refine lt_cons ?_ ?_)
 ·rintro ⟨i,hi,hh⟩
  by_cases hlt : i < l.length
  ·have e1:=ilt hlt
   have e2:=isucc hlt hl
   have e3:=k4_getD hlt
   have hq : fxExI w.bs l i = (exB w.bs (l.getD i K4.o).a (l.getD i K4.o).fa && exB w.bs (l.getD i K4.o).b (l.getD i K4.o).fb):=rfl
   have j1 : HasC Tryz.prog 202 [.agg [.i w.ts,.i w.gx,.i w.gy,.i w.it,.i w.ss,.sl (w.bs.map Bd.v),.sl (w.js.map Jt.v),.sl (w.cs.map Ct.v),.sl (w.ov.map K4.v),.i w.nid,.i w.fr],.i (l.getD i K4.o).a,.i (l.getD i K4.o).fa] (.b (exB w.bs (l.getD i K4.o).a (l.getD i K4.o).fa)):=⟨c_rex w hb _ _⟩
   have j2 : HasC Tryz.prog 202 [.agg [.i w.ts,.i w.gx,.i w.gy,.i w.it,.i w.ss,.sl (w.bs.map Bd.v),.sl (w.js.map Jt.v),.sl (w.cs.map Ct.v),.sl (w.ov.map K4.v),.i w.nid,.i w.fr],.i (l.getD i K4.o).b,.i (l.getD i K4.o).fb] (.b (exB w.bs (l.getD i K4.o).b (l.getD i K4.o).fb)):=⟨c_rex w hb _ _⟩
   repeat' (first|simp only [go_sem,↓reduceIte,Nat.reduceLT,Nat.reduceEqDiff,Nat.reduceAdd,Nat.reduceLeDiff,reduceCtorEq,e1,e2,e3]|refine cst_go ?_|refine gcst_go ?_|(refine regOk_go ?_; kernel_rfl)|refine acond_split (fun _=>?_) (fun _=>?_)|refine And.intro ?_ ?_)
   all_goals (try omega)
   ·rename_i hc
    refine leaf_b ?_; exact (LS.fail hlt (by rw [hq,Bool.and_eq_false_iff]; simpa using hc)).symm
   ·rename_i hc
    refine ⟨LS.next hlt hh (by rw [hq,Bool.and_eq_true]; simpa using hc),Nat.sub_lt_sub_left hlt (Nat.lt_succ_self _),wk_go (by decide) ?_ ?_⟩
    ·repeat' (first|exact tw_nil|refine tw_cons rfl ?_ ?_|exact lt_i _ _|exact Lt.pt _ _ (by decide)|exact lt_k4s _ _)
    ·repeat' (first|exact hw_nil|refine hw_cons (by decide) rfl bwk_rfl ?_ ?_|exact lt_i _ _|exact lt_bds _ _|exact lt_jts _ _|exact lt_cts _ _|exact lt_k4s _ _|refine lt_agg ?_|exact lt_nil|refine lt_cons ?_ ?_)
  ·have f1:=inlt hlt
   have hd:=LS.done hlt hh
   repeat' (first|simp only [go_sem,↓reduceIte,Nat.reduceLT,Nat.reduceEqDiff,Nat.reduceAdd,reduceCtorEq,f1])
   all_goals (refine leaf_b ?_; rw [hd])
theorem c_keys (l : List Ct) (hl : l.length ≤ 1000000) : PCall Tryz.prog 131 [.sl (l.map Ct.v)] (.sl ((l.map Ct.key).map K4.v)):=by
 refine pcall_of hm Tryz.func131 rfl (by kernel_rfl) (by rw [Tryz.ntmps131]; exact Nat.le_of_ble_eq_true rfl) (lt_cons (lt_cts _ _) lt_nil) (lt_k4s _ _) ?_
 rw [Tryz.ntmps131,Tryz.results131]
 repeat' (first|simp only [go_sem,↓reduceIte,Nat.reduceLT,Nat.reduceAdd,reduceCtorEq])
 refine tr_lp hm [0] [0] (fun x' : Fs (l.length)=>[(3,.ow 1 x'.i),(4,.i x'.i)]) (fun x' : Fs (l.length)=>[(1,.row 40 4 x'.i (((l.take x'.i).map Ct.key).map K4.v))]) (fun x'=>l.length - x'.i) (Fs.start _) ?_ ?_ ?_
 ·repeat' (first|exact tw_nil|refine tw_cons rfl ?_ ?_|exact lt_i _ _|exact lt_cts _ _|exact Lt.ow _ _ (by decide))
 ·repeat' (first|exact hw_nil|refine hw_cons (by decide) rfl bwk_rfl ?_ ?_|refine hw_cons (by decide) rfl (.inr ⟨rfl,_,_,rfl⟩) ?_ ?_|exact trivial|refine blt_row ?_|exact lt_nil)
  all_goals first|rfl|skip
 ·rintro ⟨i,hi⟩
  by_cases hlt : i < l.length
  ·have e1:=ilt hlt
   have e2:=isucc hlt (show l.length ≤ maxLen by have : maxLen = 9223372036854775807:=rfl; omega)
   have e3:=ct_getD hlt
   repeat' (first|simp only [go_sem,↓reduceIte,Nat.reduceLT,Nat.reduceEqDiff,Nat.reduceAdd,Nat.reduceLeDiff,Nat.reduceMul,reduceCtorEq,e1,e2,e3,List.length_take]|refine And.intro ?_ ?_)
   all_goals (try omega)
   ·have hF : ((l.take (i + 1)).map Ct.key) = ((l.take i).map Ct.key) ++ [(l.getD i Ct.o).key]:=by rw [take_succ_getD l Ct.o hlt,List.map_append]; rfl
    refine ⟨Fs.next hlt,Nat.sub_lt_sub_left hlt (Nat.lt_succ_self _),wk_go (by decide) ?_ ?_⟩
    all_goals (try simp only [show (Fs.next hlt).i = i + 1 from rfl,hF,List.map_append])
    ·repeat' (first|exact tw_nil|refine tw_cons rfl ?_ ?_|exact lt_i _ _|exact lt_cts _ _|exact Lt.ow _ _ (by decide))
     all_goals (try rfl)
    ·repeat' (first|exact hw_nil|refine hw_cons (by decide) rfl bwk_rfl ?_ ?_|exact trivial|refine blt_row ?_|exact lt_i _ _|refine lt_agg ?_|exact lt_nil|refine lt_cons ?_ ?_|refine lt_app ?_ ?_|refine lt_map (fun _=>?_))
     all_goals (try rfl)
  ·have f1:=inlt hlt
   have hii : i = l.length:=by omega
   subst hii
   repeat' (first|simp only [go_sem,↓reduceIte,Nat.reduceLT,Nat.reduceEqDiff,Nat.reduceAdd,reduceCtorEq,f1])
   all_goals (try (rw [List.take_length]))
   all_goals (try rfl)
theorem c_bex (w : Wd) (hb : w.bs.length ≤ maxLen) (j : Jt) : PCall Tryz.prog 160 [.agg [.i w.ts,.i w.gx,.i w.gy,.i w.it,.i w.ss,.sl (w.bs.map Bd.v),.sl (w.js.map Jt.v),.sl (w.cs.map Ct.v),.sl (w.ov.map K4.v),.i w.nid,.i w.fr],.agg [.i j.id,.i j.kd,.i j.ba,.i j.bb,.i j.ax,.i j.ay,.i j.bx,.i j.byy,.i j.ux,.i j.uy,.i j.ra,.b j.el,.i j.lo,.i j.up,.b j.em,.i j.ms,.i j.mf,.i j.so,.i j.br,.b j.cc,.i j.i0,.i j.i1,.i j.i2,.i j.i3]] (.b (jEx w.bs j)):=by
 refine pcall_of hm Tryz.func160 rfl (by kernel_rfl) (by rw [Tryz.ntmps160]; exact Nat.le_of_ble_eq_true rfl) (lt_cons (lt_agg (lt_cons (lt_i _ _) (lt_cons (lt_i _ _) (lt_cons (lt_i _ _) (lt_cons (lt_i _ _) (lt_cons (lt_i _ _) (lt_cons (lt_bds _ _) (lt_cons (lt_jts _ _) (lt_cons (lt_cts _ _) (lt_cons (lt_k4s _ _) (lt_cons (lt_i _ _) (lt_cons (lt_i _ _) lt_nil)))))))))))) (lt_cons (lt_agg (lt_cons (lt_i _ _) (lt_cons (lt_i _ _) (lt_cons (lt_i _ _) (lt_cons (lt_i _ _) (lt_cons (lt_i _ _) (lt_cons (lt_i _ _) (lt_cons (lt_i _ _) (lt_cons (lt_i _ _) (lt_cons (lt_i _ _) (lt_cons (lt_i _ _) (lt_cons (lt_i _ _) (lt_cons (lt_b _ _) (lt_cons (lt_i _ _) (lt_cons (lt_i _ _) (lt_cons (lt_b _ _) (lt_cons (lt_i _ _) (lt_cons (lt_i _ _) (lt_cons (lt_i _ _) (lt_cons (lt_i _ _) (lt_cons (lt_b _ _) (lt_cons (lt_i _ _) (lt_cons (lt_i _ _) (lt_cons (lt_i _ _) (lt_cons (lt_i _ _) lt_nil))))))))))))))))))))))))) lt_nil)) (lt_b _ _) ?_
 rw [Tryz.ntmps160,Tryz.results160]
 have i1 : HasC Tryz.prog 126 [.agg [.i w.ts,.i w.gx,.i w.gy,.i w.it,.i w.ss,.sl (w.bs.map Bd.v),.sl (w.js.map Jt.v),.sl (w.cs.map Ct.v),.sl (w.ov.map K4.v),.i w.nid,.i w.fr],.i j.bb] (.i (fbK w.bs j.bb)):=⟨c_fb w hb j.bb⟩
 have i2 : HasC Tryz.prog 126 [.agg [.i w.ts,.i w.gx,.i w.gy,.i w.it,.i w.ss,.sl (w.bs.map Bd.v),.sl (w.js.map Jt.v),.sl (w.cs.map Ct.v),.sl (w.ov.map K4.v),.i w.nid,.i w.fr],.i j.ba] (.i (fbK w.bs j.ba)):=⟨c_fb w hb j.ba⟩
 unfold jEx
 generalize fbK w.bs j.ba = a at *
 generalize fbK w.bs j.bb = b at *
 repeat' (first|simp only [go_sem,↓reduceIte,Nat.reduceLT,Nat.reduceEqDiff,Nat.reduceAdd,Nat.reduceLeDiff,reduceCtorEq]|refine cst_go ?_|refine gcst_go ?_|(intro (_ : _ = _)))
 all_goals (try omega)
 all_goals (try (rename_i h1; rw [h1]; done))
 all_goals (try (rename_i h1 h2; rw [h1,h2]; rfl))
 all_goals (try (rename_i h1 h2 h3; rw [h1,h2,h3]; rfl))
 all_goals (try (rename_i h1 h2 h3 h4; rw [h1,h2,h3,h4]; rfl))
 all_goals (try rfl)
theorem c_rconn (w : Wd) (hb : w.bs.length ≤ maxLen) (j : Jt) : PCall Tryz.prog 130 [.agg [.i w.ts,.i w.gx,.i w.gy,.i w.it,.i w.ss,.sl (w.bs.map Bd.v),.sl (w.js.map Jt.v),.sl (w.cs.map Ct.v),.sl (w.ov.map K4.v),.i w.nid,.i w.fr],.agg [.i j.id,.i j.kd,.i j.ba,.i j.bb,.i j.ax,.i j.ay,.i j.bx,.i j.byy,.i j.ux,.i j.uy,.i j.ra,.b j.el,.i j.lo,.i j.up,.b j.em,.i j.ms,.i j.mf,.i j.so,.i j.br,.b j.cc,.i j.i0,.i j.i1,.i j.i2,.i j.i3]] (.b (jExR w.bs j)):=by
 refine pcall_of hm Tryz.func130 rfl (by kernel_rfl) (by rw [Tryz.ntmps130]; exact Nat.le_of_ble_eq_true rfl) (lt_cons (lt_agg (lt_cons (lt_i _ _) (lt_cons (lt_i _ _) (lt_cons (lt_i _ _) (lt_cons (lt_i _ _) (lt_cons (lt_i _ _) (lt_cons (lt_bds _ _) (lt_cons (lt_jts _ _) (lt_cons (lt_cts _ _) (lt_cons (lt_k4s _ _) (lt_cons (lt_i _ _) (lt_cons (lt_i _ _) lt_nil)))))))))))) (lt_cons (lt_agg (lt_cons (lt_i _ _) (lt_cons (lt_i _ _) (lt_cons (lt_i _ _) (lt_cons (lt_i _ _) (lt_cons (lt_i _ _) (lt_cons (lt_i _ _) (lt_cons (lt_i _ _) (lt_cons (lt_i _ _) (lt_cons (lt_i _ _) (lt_cons (lt_i _ _) (lt_cons (lt_i _ _) (lt_cons (lt_b _ _) (lt_cons (lt_i _ _) (lt_cons (lt_i _ _) (lt_cons (lt_b _ _) (lt_cons (lt_i _ _) (lt_cons (lt_i _ _) (lt_cons (lt_i _ _) (lt_cons (lt_i _ _) (lt_cons (lt_b _ _) (lt_cons (lt_i _ _) (lt_cons (lt_i _ _) (lt_cons (lt_i _ _) (lt_cons (lt_i _ _) lt_nil))))))))))))))))))))))))) lt_nil)) (lt_b _ _) ?_
 rw [Tryz.ntmps130,Tryz.results130]
 have i1 : HasC Tryz.prog 40 [.agg [.i w.ts,.i w.gx,.i w.gy,.i w.it,.i w.ss,.sl (w.bs.map Bd.v),.sl (w.js.map Jt.v),.sl (w.cs.map Ct.v),.sl (w.ov.map K4.v),.i w.nid,.i w.fr],.i j.bb] (.i (fbK w.bs j.bb)):=⟨c_rfb w hb j.bb⟩
 have i2 : HasC Tryz.prog 40 [.agg [.i w.ts,.i w.gx,.i w.gy,.i w.it,.i w.ss,.sl (w.bs.map Bd.v),.sl (w.js.map Jt.v),.sl (w.cs.map Ct.v),.sl (w.ov.map K4.v),.i w.nid,.i w.fr],.i j.ba] (.i (fbK w.bs j.ba)):=⟨c_rfb w hb j.ba⟩
 unfold jExR
 generalize fbK w.bs j.ba = a at *
 generalize fbK w.bs j.bb = b at *
 repeat' (first|simp only [go_sem,↓reduceIte,Nat.reduceLT,Nat.reduceEqDiff,Nat.reduceAdd,Nat.reduceLeDiff,reduceCtorEq]|refine gcst_go ?_|(intro (_ : _ = _)))
 all_goals (try omega)
 all_goals (try (rename_i h1; rw [h1]; done))
 all_goals (try (rename_i h1 h2; rw [h1,h2]; rfl))
 all_goals (try (rename_i h1 h2 h3; rw [h1,h2,h3]; rfl))
 all_goals (try (rename_i h1 h2 h3 h4; rw [h1,h2,h3,h4]; rfl))
 all_goals (try rfl)
end Go.Proofs.YtplmagdbnbijlaaGreat
/-
 Valid worlds. Conditions: none.
-/
namespace Go.Proofs.YtplmagdbnbijlaaGreat
open Go.RowKit Go.AL Go.Carom
theorem c_vset (w : Wd) : PCall Tryz.prog 103 [.agg [.i w.ts,.i w.gx,.i w.gy,.i w.it,.i w.ss]] (.i (if setOk w = false then 6 else 0)):=by
 refine pcall_of hm Tryz.func103 rfl (by kernel_rfl) (by rw [Tryz.ntmps103]; exact Nat.le_of_ble_eq_true rfl) (lt_cons (lt_agg (lt_cons (lt_i _ _) (lt_cons (lt_i _ _) (lt_cons (lt_i _ _) (lt_cons (lt_i _ _) (lt_cons (lt_i _ _) lt_nil)))))) lt_nil) (lt_i _ _) ?_
 rw [Tryz.ntmps103,Tryz.results103]
 have n0 : IntKind.i64.wrap (-16777216) = -16777216:=by kernel_rfl
 have hq : (((!inR w.ts 64 8192 || !(inR w.gx (-16777216) 16777216 && inR w.gy (-16777216) 16777216)) || !inR w.it 1 32) || !inR w.ss 0 1048576) = !setOk w:=by
  unfold setOk; simp only [Bool.not_and,Bool.or_assoc]
 have hr : ((((!inR w.ts 64 8192 || !inR w.gx (-16777216) 16777216) || !inR w.gy (-16777216) 16777216) || !inR w.it 1 32) || !inR w.ss 0 1048576) = !setOk w:=by
  unfold setOk; simp only [Bool.not_and,Bool.or_assoc]
 generalize setOk w = s at *
 repeat' (first|simp only [go_sem,↓reduceIte,Nat.reduceLT,Nat.reduceEqDiff,Nat.reduceAdd,Nat.reduceLeDiff,reduceCtorEq,Int.reduceNeg,hq]|refine cst_go ?_|refine gcst_go ?_|refine acond_split (fun _=>?_) (fun _=>?_))
 all_goals (rename_i hc; first|(rw [show s = true by simpa using hc]; rfl)|(rw [show s = false by simpa using hc]; rfl))
theorem c_rvset (w : Wd) : PCall Tryz.prog 79 [.agg [.i w.ts,.i w.gx,.i w.gy,.i w.it,.i w.ss]] (.i (if setOk w = false then 6 else 0)):=by
 refine pcall_of hm Tryz.func79 rfl (by kernel_rfl) (by rw [Tryz.ntmps79]; exact Nat.le_of_ble_eq_true rfl) (lt_cons (lt_agg (lt_cons (lt_i _ _) (lt_cons (lt_i _ _) (lt_cons (lt_i _ _) (lt_cons (lt_i _ _) (lt_cons (lt_i _ _) lt_nil)))))) lt_nil) (lt_i _ _) ?_
 rw [Tryz.ntmps79,Tryz.results79]
 have n0 : IntKind.i64.wrap (-16777216) = -16777216:=by kernel_rfl
 have hq : (((!inR w.ts 64 8192 || !(inR w.gx (-16777216) 16777216 && inR w.gy (-16777216) 16777216)) || !inR w.it 1 32) || !inR w.ss 0 1048576) = !setOk w:=by
  unfold setOk; simp only [Bool.not_and,Bool.or_assoc]
 have hr : ((((!inR w.ts 64 8192 || !inR w.gx (-16777216) 16777216) || !inR w.gy (-16777216) 16777216) || !inR w.it 1 32) || !inR w.ss 0 1048576) = !setOk w:=by
  unfold setOk; simp only [Bool.not_and,Bool.or_assoc]
 generalize setOk w = s at *
 repeat' (first|simp only [go_sem,↓reduceIte,Nat.reduceLT,Nat.reduceEqDiff,Nat.reduceAdd,Nat.reduceLeDiff,reduceCtorEq,Int.reduceNeg,hr]|refine cst_go ?_|refine gcst_go ?_|refine acond_split (fun _=>?_) (fun _=>?_))
 all_goals (rename_i hc; first|(rw [show s = true by simpa using hc]; rfl)|(rw [show s = false by simpa using hc]; rfl))
theorem c_wvb (w : Wd) (hw : WH w) : PCall Tryz.prog 105 [.agg [.i w.ts,.i w.gx,.i w.gy,.i w.it,.i w.ss,.sl (w.bs.map Bd.v),.sl (w.js.map Jt.v),.sl (w.cs.map Ct.v),.sl (w.ov.map K4.v),.i w.nid,.i w.fr]] (.b (wB w)):=by
 refine pcall_of hm Tryz.func105 rfl (by kernel_rfl) (by rw [Tryz.ntmps105]; exact Nat.le_of_ble_eq_true rfl) (lt_cons (lt_agg (lt_cons (lt_i _ _) (lt_cons (lt_i _ _) (lt_cons (lt_i _ _) (lt_cons (lt_i _ _) (lt_cons (lt_i _ _) (lt_cons (lt_bds _ _) (lt_cons (lt_jts _ _) (lt_cons (lt_cts _ _) (lt_cons (lt_k4s _ _) (lt_cons (lt_i _ _) (lt_cons (lt_i _ _) lt_nil)))))))))))) lt_nil) (lt_b _ _) ?_
 rw [Tryz.ntmps105,Tryz.results105]
 repeat' (first|simp only [go_sem,↓reduceIte,Nat.reduceLT,Nat.reduceEqDiff,Nat.reduceAdd,Nat.reduceLeDiff,reduceCtorEq])
 refine tr_lp hm [1,7,8] [0] (fun x' : LS (w.bs.length) (wbI w)=>[(9,.i x'.i),(3,.i (bPrev w.bs x'.i))]) (fun x' : LS (w.bs.length) (wbI w)=>[]) (fun x'=>w.bs.length - x'.i) (LS.start _ _) ?_ ?_ ?_
 ·repeat' (first|exact tw_nil|refine tw_cons rfl ?_ ?_|exact lt_i _ _|exact Lt.pt _ _ (by decide)|exact lt_bds _ _)
 ·repeat' (first|exact hw_nil|refine hw_cons (by decide) rfl bwk_rfl ?_ ?_|exact lt_i _ _|exact lt_bds _ _|exact lt_jts _ _|exact lt_cts _ _|exact lt_k4s _ _|refine lt_agg ?_|exact lt_nil|refine lt_cons ?_ ?_)
 ·rintro ⟨i,hi,hh⟩
  by_cases hlt : i < w.bs.length
  ·have e1:=ilt hlt
   have e2:=isucc hlt (show w.bs.length ≤ maxLen by have:=hw.b; have : maxLen = 9223372036854775807:=rfl; omega)
   have e3:=bd_getD hlt
   have hv:=wbI_p w i
   rw [← Bool.or_assoc] at hv
   have hmem:=getD_mem (d:=Bd.o) hlt
   have hx:=hw.f _ hmem
   have j1 : HasC Tryz.prog 158 [.agg [.i (w.bs.getD i Bd.o).id,.i (w.bs.getD i Bd.o).kd,.i (w.bs.getD i Bd.o).px,.i (w.bs.getD i Bd.o).py,.i (w.bs.getD i Bd.o).an,.i (w.bs.getD i Bd.o).vx,.i (w.bs.getD i Bd.o).vy,.i (w.bs.getD i Bd.o).av,.i (w.bs.getD i Bd.o).gx,.i (w.bs.getD i Bd.o).gy,.i (w.bs.getD i Bd.o).tq,.i (w.bs.getD i Bd.o).ld,.i (w.bs.getD i Bd.o).ad,.i (w.bs.getD i Bd.o).gs,.b (w.bs.getD i Bd.o).bul,.b (w.bs.getD i Bd.o).fr,.b (w.bs.getD i Bd.o).ns,.b (w.bs.getD i Bd.o).asl,.i (w.bs.getD i Bd.o).idl,.sl ((w.bs.getD i Bd.o).fs.map Fx.v)]] (.i (bval (w.bs.getD i Bd.o))):=⟨c_bval _ (by have : maxLen = 9223372036854775807:=rfl; have:=hx.1; omega) (fun f hf=>by have : maxLen = 9223372036854775807:=rfl; have:=hx.2 f hf; omega)⟩
   repeat' (first|simp only [go_sem,↓reduceIte,Nat.reduceLT,Nat.reduceEqDiff,Nat.reduceAdd,Nat.reduceLeDiff,reduceCtorEq,e1,e2,e3,hv]|refine cst_go ?_|refine acond_split (fun _=>?_) (fun _=>?_))
   all_goals (try omega)
   all_goals (try (rename_i h1; rw [h1]; done))
   all_goals (try (rename_i h1 h2; rw [h1,h2]; rfl))
   all_goals (try (rename_i h1 h2 h3; rw [h1,h2,h3]; rfl))
   all_goals (try (rename_i h1 h2 h3 h4; rw [h1,h2,h3,h4]; rfl))
   ·rename_i hc
    refine leaf_b ?_; exact (LS.fail hlt (by simpa using hc)).symm
   ·rename_i hc
    refine ⟨LS.next hlt hh (by simpa using hc),Nat.sub_lt_sub_left hlt (Nat.lt_succ_self _),wk_go (by decide) ?_ ?_⟩
    ·repeat' (first|exact tw_nil|refine tw_cons rfl ?_ ?_|exact lt_i _ _|exact Lt.pt _ _ (by decide)|exact lt_bds _ _)
    ·repeat' (first|exact hw_nil|refine hw_cons (by decide) rfl bwk_rfl ?_ ?_|exact lt_i _ _|exact lt_bds _ _|exact lt_jts _ _|exact lt_cts _ _|exact lt_k4s _ _|refine lt_agg ?_|exact lt_nil|refine lt_cons ?_ ?_)
  ·have f1:=inlt hlt
   have hd:=LS.done hlt hh
   repeat' (first|simp only [go_sem,↓reduceIte,Nat.reduceLT,Nat.reduceEqDiff,Nat.reduceAdd,f1])
   all_goals (refine leaf_b ?_; unfold wB; rw [hd])
theorem c_rwvb (w : Wd) (hw : WH w) : PCall Tryz.prog 81 [.agg [.i w.ts,.i w.gx,.i w.gy,.i w.it,.i w.ss,.sl (w.bs.map Bd.v),.sl (w.js.map Jt.v),.sl (w.cs.map Ct.v),.sl (w.ov.map K4.v),.i w.nid,.i w.fr]] (.b (wB w)):=by
 refine pcall_of hm Tryz.func81 rfl (by kernel_rfl) (by rw [Tryz.ntmps81]; exact Nat.le_of_ble_eq_true rfl) (lt_cons (lt_agg (lt_cons (lt_i _ _) (lt_cons (lt_i _ _) (lt_cons (lt_i _ _) (lt_cons (lt_i _ _) (lt_cons (lt_i _ _) (lt_cons (lt_bds _ _) (lt_cons (lt_jts _ _) (lt_cons (lt_cts _ _) (lt_cons (lt_k4s _ _) (lt_cons (lt_i _ _) (lt_cons (lt_i _ _) lt_nil)))))))))))) lt_nil) (lt_b _ _) ?_
 rw [Tryz.ntmps81,Tryz.results81]
 repeat' (first|simp only [go_sem,↓reduceIte,Nat.reduceLT,Nat.reduceAdd])
 refine tr_lp hm [1] [0] (fun x' : LS (w.bs.length) (wbI w)=>[(4,.i x'.i),(3,.i (bPrev w.bs x'.i))]) (fun x' : LS (w.bs.length) (wbI w)=>[]) (fun x'=>w.bs.length - x'.i) (LS.start _ _) ?_ ?_ ?_
 ·repeat' (first|exact tw_nil|refine tw_cons rfl ?_ ?_|exact lt_i _ _|exact Lt.pt _ _ (by decide))
 ·repeat' (first|exact hw_nil|refine hw_cons (by decide) rfl bwk_rfl ?_ ?_|exact lt_i _ _|exact lt_bds _ _|exact lt_jts _ _|exact lt_cts _ _|exact lt_k4s _ _|refine lt_agg ?_|exact lt_nil|refine lt_cons ?_ ?_)
 ·rintro ⟨i,hi,hh⟩
  by_cases hlt : i < w.bs.length
  ·have e1:=ilt hlt
   have e2:=isucc hlt (show w.bs.length ≤ maxLen by have:=hw.b; have : maxLen = 9223372036854775807:=rfl; omega)
   have e3:=bd_getD hlt
   have hv:=wbI_r w i
   rw [← Bool.or_assoc] at hv
   have hmem:=getD_mem (d:=Bd.o) hlt
   have hx:=hw.f _ hmem
   have j1 : HasC Tryz.prog 128 [.agg [.i (w.bs.getD i Bd.o).id,.i (w.bs.getD i Bd.o).kd,.i (w.bs.getD i Bd.o).px,.i (w.bs.getD i Bd.o).py,.i (w.bs.getD i Bd.o).an,.i (w.bs.getD i Bd.o).vx,.i (w.bs.getD i Bd.o).vy,.i (w.bs.getD i Bd.o).av,.i (w.bs.getD i Bd.o).gx,.i (w.bs.getD i Bd.o).gy,.i (w.bs.getD i Bd.o).tq,.i (w.bs.getD i Bd.o).ld,.i (w.bs.getD i Bd.o).ad,.i (w.bs.getD i Bd.o).gs,.b (w.bs.getD i Bd.o).bul,.b (w.bs.getD i Bd.o).fr,.b (w.bs.getD i Bd.o).ns,.b (w.bs.getD i Bd.o).asl,.i (w.bs.getD i Bd.o).idl,.sl ((w.bs.getD i Bd.o).fs.map Fx.v)]] (.i (bval (w.bs.getD i Bd.o))):=⟨c_rbval _ (by have : maxLen = 9223372036854775807:=rfl; have:=hx.1; omega) (fun f hf=>by have : maxLen = 9223372036854775807:=rfl; have:=hx.2 f hf; omega)⟩
   repeat' (first|simp only [go_sem,↓reduceIte,Nat.reduceLT,Nat.reduceEqDiff,Nat.reduceAdd,Nat.reduceLeDiff,reduceCtorEq,e1,e2,e3,hv]|refine cst_go ?_|refine acond_split (fun _=>?_) (fun _=>?_)|refine And.intro ?_ ?_|(intro (_ : _ = _)))
   all_goals (try omega)
   all_goals (try (rename_i h1; rw [h1]; done))
   all_goals (try (rename_i h1 h2; rw [h1,h2]; rfl))
   all_goals (try (rename_i h1 h2 h3; rw [h1,h2,h3]; rfl))
   all_goals (try (rename_i h1 h2 h3 h4; rw [h1,h2,h3,h4]; rfl))
   ·rename_i hc
    refine leaf_b ?_; exact (LS.fail hlt (by simpa using hc)).symm
   ·rename_i hc
    refine ⟨LS.next hlt hh (by simpa using hc),Nat.sub_lt_sub_left hlt (Nat.lt_succ_self _),wk_go (by decide) ?_ ?_⟩
    ·repeat' (first|exact tw_nil|refine tw_cons rfl ?_ ?_|exact lt_i _ _|exact Lt.pt _ _ (by decide))
    ·repeat' (first|exact hw_nil|refine hw_cons (by decide) rfl bwk_rfl ?_ ?_|exact lt_i _ _|exact lt_bds _ _|exact lt_jts _ _|exact lt_cts _ _|exact lt_k4s _ _|refine lt_agg ?_|exact lt_nil|refine lt_cons ?_ ?_)
  ·have f1:=inlt hlt
   have hd:=LS.done hlt hh
   repeat' (first|simp only [go_sem,↓reduceIte,Nat.reduceLT,Nat.reduceEqDiff,Nat.reduceAdd,Nat.reduceLeDiff,reduceCtorEq,f1])
   all_goals (refine leaf_b ?_; unfold wB; rw [hd])
theorem c_wvj (w : Wd) (hw : WH w) : PCall Tryz.prog 106 [.agg [.i w.ts,.i w.gx,.i w.gy,.i w.it,.i w.ss,.sl (w.bs.map Bd.v),.sl (w.js.map Jt.v),.sl (w.cs.map Ct.v),.sl (w.ov.map K4.v),.i w.nid,.i w.fr]] (.b (wJ w)):=by
 refine pcall_of hm Tryz.func106 rfl (by kernel_rfl) (by rw [Tryz.ntmps106]; exact Nat.le_of_ble_eq_true rfl) (lt_cons (lt_agg (lt_cons (lt_i _ _) (lt_cons (lt_i _ _) (lt_cons (lt_i _ _) (lt_cons (lt_i _ _) (lt_cons (lt_i _ _) (lt_cons (lt_bds _ _) (lt_cons (lt_jts _ _) (lt_cons (lt_cts _ _) (lt_cons (lt_k4s _ _) (lt_cons (lt_i _ _) (lt_cons (lt_i _ _) lt_nil)))))))))))) lt_nil) (lt_b _ _) ?_
 rw [Tryz.ntmps106,Tryz.results106]
 repeat' (first|simp only [go_sem,↓reduceIte,Nat.reduceLT,Nat.reduceEqDiff,Nat.reduceAdd,Nat.reduceLeDiff,reduceCtorEq])
 refine tr_lp hm [1,7,8] [0] (fun x' : LS (w.js.length) (wjI w)=>[(9,.i x'.i),(3,.i (jPrev w.js x'.i))]) (fun x' : LS (w.js.length) (wjI w)=>[]) (fun x'=>w.js.length - x'.i) (LS.start _ _) ?_ ?_ ?_
 ·repeat' (first|exact tw_nil|refine tw_cons rfl ?_ ?_|exact lt_i _ _|exact Lt.pt _ _ (by decide)|exact lt_jts _ _)
 ·repeat' (first|exact hw_nil|refine hw_cons (by decide) rfl bwk_rfl ?_ ?_|exact lt_i _ _|exact lt_bds _ _|exact lt_jts _ _|exact lt_cts _ _|exact lt_k4s _ _|refine lt_agg ?_|exact lt_nil|refine lt_cons ?_ ?_)
 ·rintro ⟨i,hi,hh⟩
  by_cases hlt : i < w.js.length
  ·have e1:=ilt hlt
   have e2:=isucc hlt (show w.js.length ≤ maxLen by have:=hw.j; have : maxLen = 9223372036854775807:=rfl; omega)
   have e3:=jt_getD hlt
   have hv:=wjI_p w i
   have j1 : HasC Tryz.prog 159 [.agg [.i (w.js.getD i Jt.o).id,.i (w.js.getD i Jt.o).kd,.i (w.js.getD i Jt.o).ba,.i (w.js.getD i Jt.o).bb,.i (w.js.getD i Jt.o).ax,.i (w.js.getD i Jt.o).ay,.i (w.js.getD i Jt.o).bx,.i (w.js.getD i Jt.o).byy,.i (w.js.getD i Jt.o).ux,.i (w.js.getD i Jt.o).uy,.i (w.js.getD i Jt.o).ra,.b (w.js.getD i Jt.o).el,.i (w.js.getD i Jt.o).lo,.i (w.js.getD i Jt.o).up,.b (w.js.getD i Jt.o).em,.i (w.js.getD i Jt.o).ms,.i (w.js.getD i Jt.o).mf,.i (w.js.getD i Jt.o).so,.i (w.js.getD i Jt.o).br,.b (w.js.getD i Jt.o).cc,.i (w.js.getD i Jt.o).i0,.i (w.js.getD i Jt.o).i1,.i (w.js.getD i Jt.o).i2,.i (w.js.getD i Jt.o).i3]] (.i (jval (w.js.getD i Jt.o))):=⟨c_jval _⟩
   have j2 : HasC Tryz.prog 160 [.agg [.i w.ts,.i w.gx,.i w.gy,.i w.it,.i w.ss,.sl (w.bs.map Bd.v),.sl (w.js.map Jt.v),.sl (w.cs.map Ct.v),.sl (w.ov.map K4.v),.i w.nid,.i w.fr],.agg [.i (w.js.getD i Jt.o).id,.i (w.js.getD i Jt.o).kd,.i (w.js.getD i Jt.o).ba,.i (w.js.getD i Jt.o).bb,.i (w.js.getD i Jt.o).ax,.i (w.js.getD i Jt.o).ay,.i (w.js.getD i Jt.o).bx,.i (w.js.getD i Jt.o).byy,.i (w.js.getD i Jt.o).ux,.i (w.js.getD i Jt.o).uy,.i (w.js.getD i Jt.o).ra,.b (w.js.getD i Jt.o).el,.i (w.js.getD i Jt.o).lo,.i (w.js.getD i Jt.o).up,.b (w.js.getD i Jt.o).em,.i (w.js.getD i Jt.o).ms,.i (w.js.getD i Jt.o).mf,.i (w.js.getD i Jt.o).so,.i (w.js.getD i Jt.o).br,.b (w.js.getD i Jt.o).cc,.i (w.js.getD i Jt.o).i0,.i (w.js.getD i Jt.o).i1,.i (w.js.getD i Jt.o).i2,.i (w.js.getD i Jt.o).i3]] (.b (jEx w.bs (w.js.getD i Jt.o))):=⟨c_bex w (show w.bs.length ≤ maxLen by have:=hw.b; have : maxLen = 9223372036854775807:=rfl; omega) _⟩
   have j3 : HasC Tryz.prog 126 [.agg [.i w.ts,.i w.gx,.i w.gy,.i w.it,.i w.ss,.sl (w.bs.map Bd.v),.sl (w.js.map Jt.v),.sl (w.cs.map Ct.v),.sl (w.ov.map K4.v),.i w.nid,.i w.fr],.i (w.js.getD i Jt.o).id] (.i (fbK w.bs (w.js.getD i Jt.o).id)):=⟨c_fb w (show w.bs.length ≤ maxLen by have:=hw.b; have : maxLen = 9223372036854775807:=rfl; omega) _⟩
   repeat' (first|simp only [go_sem,↓reduceIte,Nat.reduceLT,Nat.reduceEqDiff,Nat.reduceAdd,Nat.reduceLeDiff,reduceCtorEq,e1,e2,e3,hv]|refine cst_go ?_|refine gcst_go ?_|refine acond_split (fun _=>?_) (fun _=>?_))
   all_goals (try omega)
   all_goals (try (rename_i h1; rw [h1]; done))
   all_goals (try (rename_i h1 h2; rw [h1,h2]; rfl))
   all_goals (try (rename_i h1 h2 h3; rw [h1,h2,h3]; rfl))
   all_goals (try (rename_i h1 h2 h3 h4; rw [h1,h2,h3,h4]; rfl))
   ·rename_i hc
    refine leaf_b ?_; exact (LS.fail hlt (by simpa using hc)).symm
   ·rename_i hc
    refine ⟨LS.next hlt hh (by simpa using hc),Nat.sub_lt_sub_left hlt (Nat.lt_succ_self _),wk_go (by decide) ?_ ?_⟩
    ·repeat' (first|exact tw_nil|refine tw_cons rfl ?_ ?_|exact lt_i _ _|exact Lt.pt _ _ (by decide)|exact lt_jts _ _)
    ·repeat' (first|exact hw_nil|refine hw_cons (by decide) rfl bwk_rfl ?_ ?_|exact lt_i _ _|exact lt_bds _ _|exact lt_jts _ _|exact lt_cts _ _|exact lt_k4s _ _|refine lt_agg ?_|exact lt_nil|refine lt_cons ?_ ?_)
  ·have f1:=inlt hlt
   have hd:=LS.done hlt hh
   repeat' (first|simp only [go_sem,↓reduceIte,Nat.reduceLT,Nat.reduceEqDiff,Nat.reduceAdd,f1])
   all_goals (refine leaf_b ?_; unfold wJ; rw [hd])
theorem c_rwvj (w : Wd) (hw : WH w) : PCall Tryz.prog 82 [.agg [.i w.ts,.i w.gx,.i w.gy,.i w.it,.i w.ss,.sl (w.bs.map Bd.v),.sl (w.js.map Jt.v),.sl (w.cs.map Ct.v),.sl (w.ov.map K4.v),.i w.nid,.i w.fr]] (.b (wJ w)):=by
 refine pcall_of hm Tryz.func82 rfl (by kernel_rfl) (by rw [Tryz.ntmps82]; exact Nat.le_of_ble_eq_true rfl) (lt_cons (lt_agg (lt_cons (lt_i _ _) (lt_cons (lt_i _ _) (lt_cons (lt_i _ _) (lt_cons (lt_i _ _) (lt_cons (lt_i _ _) (lt_cons (lt_bds _ _) (lt_cons (lt_jts _ _) (lt_cons (lt_cts _ _) (lt_cons (lt_k4s _ _) (lt_cons (lt_i _ _) (lt_cons (lt_i _ _) lt_nil)))))))))))) lt_nil) (lt_b _ _) ?_
 rw [Tryz.ntmps82,Tryz.results82]
 repeat' (first|simp only [go_sem,↓reduceIte,Nat.reduceLT,Nat.reduceAdd])
 refine tr_lp hm [1] [0] (fun x' : LS (w.js.length) (wjI w)=>[(4,.i x'.i),(3,.i (jPrev w.js x'.i))]) (fun x' : LS (w.js.length) (wjI w)=>[]) (fun x'=>w.js.length - x'.i) (LS.start _ _) ?_ ?_ ?_
 ·repeat' (first|exact tw_nil|refine tw_cons rfl ?_ ?_|exact lt_i _ _|exact Lt.pt _ _ (by decide))
 ·repeat' (first|exact hw_nil|refine hw_cons (by decide) rfl bwk_rfl ?_ ?_|exact lt_i _ _|exact lt_bds _ _|exact lt_jts _ _|exact lt_cts _ _|exact lt_k4s _ _|refine lt_agg ?_|exact lt_nil|refine lt_cons ?_ ?_)
 ·rintro ⟨i,hi,hh⟩
  by_cases hlt : i < w.js.length
  ·have e1:=ilt hlt
   have e2:=isucc hlt (show w.js.length ≤ maxLen by have:=hw.j; have : maxLen = 9223372036854775807:=rfl; omega)
   have e3:=jt_getD hlt
   have hv:=wjI_r w i
   have j1 : HasC Tryz.prog 129 [.agg [.i (w.js.getD i Jt.o).id,.i (w.js.getD i Jt.o).kd,.i (w.js.getD i Jt.o).ba,.i (w.js.getD i Jt.o).bb,.i (w.js.getD i Jt.o).ax,.i (w.js.getD i Jt.o).ay,.i (w.js.getD i Jt.o).bx,.i (w.js.getD i Jt.o).byy,.i (w.js.getD i Jt.o).ux,.i (w.js.getD i Jt.o).uy,.i (w.js.getD i Jt.o).ra,.b (w.js.getD i Jt.o).el,.i (w.js.getD i Jt.o).lo,.i (w.js.getD i Jt.o).up,.b (w.js.getD i Jt.o).em,.i (w.js.getD i Jt.o).ms,.i (w.js.getD i Jt.o).mf,.i (w.js.getD i Jt.o).so,.i (w.js.getD i Jt.o).br,.b (w.js.getD i Jt.o).cc,.i (w.js.getD i Jt.o).i0,.i (w.js.getD i Jt.o).i1,.i (w.js.getD i Jt.o).i2,.i (w.js.getD i Jt.o).i3]] (.i (jval (w.js.getD i Jt.o))):=⟨c_rjval _⟩
   have j2 : HasC Tryz.prog 130 [.agg [.i w.ts,.i w.gx,.i w.gy,.i w.it,.i w.ss,.sl (w.bs.map Bd.v),.sl (w.js.map Jt.v),.sl (w.cs.map Ct.v),.sl (w.ov.map K4.v),.i w.nid,.i w.fr],.agg [.i (w.js.getD i Jt.o).id,.i (w.js.getD i Jt.o).kd,.i (w.js.getD i Jt.o).ba,.i (w.js.getD i Jt.o).bb,.i (w.js.getD i Jt.o).ax,.i (w.js.getD i Jt.o).ay,.i (w.js.getD i Jt.o).bx,.i (w.js.getD i Jt.o).byy,.i (w.js.getD i Jt.o).ux,.i (w.js.getD i Jt.o).uy,.i (w.js.getD i Jt.o).ra,.b (w.js.getD i Jt.o).el,.i (w.js.getD i Jt.o).lo,.i (w.js.getD i Jt.o).up,.b (w.js.getD i Jt.o).em,.i (w.js.getD i Jt.o).ms,.i (w.js.getD i Jt.o).mf,.i (w.js.getD i Jt.o).so,.i (w.js.getD i Jt.o).br,.b (w.js.getD i Jt.o).cc,.i (w.js.getD i Jt.o).i0,.i (w.js.getD i Jt.o).i1,.i (w.js.getD i Jt.o).i2,.i (w.js.getD i Jt.o).i3]] (.b (jExR w.bs (w.js.getD i Jt.o))):=⟨c_rconn w (show w.bs.length ≤ maxLen by have:=hw.b; have : maxLen = 9223372036854775807:=rfl; omega) _⟩
   have j3 : HasC Tryz.prog 40 [.agg [.i w.ts,.i w.gx,.i w.gy,.i w.it,.i w.ss,.sl (w.bs.map Bd.v),.sl (w.js.map Jt.v),.sl (w.cs.map Ct.v),.sl (w.ov.map K4.v),.i w.nid,.i w.fr],.i (w.js.getD i Jt.o).id] (.i (fbK w.bs (w.js.getD i Jt.o).id)):=⟨c_rfb w (show w.bs.length ≤ maxLen by have:=hw.b; have : maxLen = 9223372036854775807:=rfl; omega) _⟩
   repeat' (first|simp only [go_sem,↓reduceIte,Nat.reduceLT,Nat.reduceEqDiff,Nat.reduceAdd,Nat.reduceLeDiff,reduceCtorEq,e1,e2,e3,hv]|refine cst_go ?_|refine gcst_go ?_|refine acond_split (fun _=>?_) (fun _=>?_)|refine And.intro ?_ ?_|(intro (_ : _ = _)))
   all_goals (try omega)
   all_goals (try (rename_i h1; rw [h1]; done))
   all_goals (try (rename_i h1 h2; rw [h1,h2]; rfl))
   all_goals (try (rename_i h1 h2 h3; rw [h1,h2,h3]; rfl))
   all_goals (try (rename_i h1 h2 h3 h4; rw [h1,h2,h3,h4]; rfl))
   ·rename_i hc
    refine leaf_b ?_; exact (LS.fail hlt (by simpa using hc)).symm
   ·rename_i hc
    refine ⟨LS.next hlt hh (by simpa using hc),Nat.sub_lt_sub_left hlt (Nat.lt_succ_self _),wk_go (by decide) ?_ ?_⟩
    ·repeat' (first|exact tw_nil|refine tw_cons rfl ?_ ?_|exact lt_i _ _|exact Lt.pt _ _ (by decide))
    ·repeat' (first|exact hw_nil|refine hw_cons (by decide) rfl bwk_rfl ?_ ?_|exact lt_i _ _|exact lt_bds _ _|exact lt_jts _ _|exact lt_cts _ _|exact lt_k4s _ _|refine lt_agg ?_|exact lt_nil|refine lt_cons ?_ ?_)
  ·have f1:=inlt hlt
   have hd:=LS.done hlt hh
   repeat' (first|simp only [go_sem,↓reduceIte,Nat.reduceLT,Nat.reduceEqDiff,Nat.reduceAdd,Nat.reduceLeDiff,reduceCtorEq,f1])
   all_goals (refine leaf_b ?_; unfold wJ; rw [hd])
end Go.Proofs.YtplmagdbnbijlaaGreat
/-
 Valid contacts of a world; valid worlds. Conditions: none.
-/
namespace Go.Proofs.YtplmagdbnbijlaaGreat
open Go.RowKit Go.AL Go.Carom
theorem ls_next_i {n : Nat} {good : Nat → Bool} {i : Nat} (hi : i < n) (h : ∀ j,j < i → good j = true) (hg : good i = true) : (LS.next hi h hg).i = i + 1:=rfl
theorem c_wvc (w : Wd) (hw : WH w) : PCall Tryz.prog 107 [.agg [.i w.ts,.i w.gx,.i w.gy,.i w.it,.i w.ss,.sl (w.bs.map Bd.v),.sl (w.js.map Jt.v),.sl (w.cs.map Ct.v),.sl (w.ov.map K4.v),.i w.nid,.i w.fr]] (.b (wC w)):=by
 refine pcall_of_tr hm Tryz.func107 rfl (by kernel_rfl) Tryz.ntmps107 Tryz.results107 rfl (lt_cons (lt_agg (lt_cons (lt_i _ _) (lt_cons (lt_i _ _) (lt_cons (lt_i _ _) (lt_cons (lt_i _ _) (lt_cons (lt_i _ _) (lt_cons (lt_bds _ _) (lt_cons (lt_jts _ _) (lt_cons (lt_cts _ _) (lt_cons (lt_k4s _ _) (lt_cons (lt_i _ _) (lt_cons (lt_i _ _) lt_nil)))))))))))) lt_nil) (lt_b _ _) ?_
 obtain ⟨ks,hks⟩ : ∃ ks,ks = w.cs.map Ct.key:=⟨_,rfl⟩
 have hkl : ks.length = w.cs.length:=by rw [hks,List.length_map]
 have hkm : ks.length ≤ maxLen:=by have:=hw.c; have : maxLen = 9223372036854775807:=rfl; omega
 have hom : w.ov.length ≤ maxLen:=(show w.ov.length ≤ maxLen by have:=hw.o; have : maxLen = 9223372036854775807:=rfl; omega)
 have hbm : w.bs.length ≤ maxLen:=(show w.bs.length ≤ maxLen by have:=hw.b; have : maxLen = 9223372036854775807:=rfl; omega)
 have hwk : wKs w = ks:=hks.symm
 refine tr_seqc hm ?_
 repeat' (first|simp only [go_sem,↓reduceIte,Nat.reduceLT,Nat.reduceAdd])
 refine ktr_go (tr_seqc hm ?_)
 repeat' (first|simp only [go_sem,↓reduceIte,Nat.reduceLT,Nat.reduceAdd,reduceCtorEq])
 refine ktr_go (tr_seqc hm ?_)
 repeat' (first|simp only [go_sem,↓reduceIte,Nat.reduceLT,Nat.reduceEqDiff,Nat.reduceAdd,Nat.reduceLeDiff,reduceCtorEq])
 refine tr_lp hm [1,7,8] [0] (fun x' : LS (w.cs.length) (ctOkI w.cs)=>[(9,.i x'.i),(3,.ow 1 x'.i)]) (fun x' : LS (w.cs.length) (ctOkI w.cs)=>[(1,.row 40 4 x'.i (((w.cs.take x'.i).map Ct.key).map K4.v))]) (fun x'=>w.cs.length - x'.i) (LS.start _ _) ?_ ?_ ?_
 ·repeat' (first|exact tw_nil|refine tw_cons rfl ?_ ?_|exact lt_i _ _|exact Lt.pt _ _ (by decide)|exact lt_cts _ _|exact Lt.ow _ _ (by decide))
  all_goals (try rfl)
 ·repeat' (first|exact hw_nil|refine hw_cons (by decide) rfl bwk_rfl ?_ ?_|refine hw_cons (by decide) rfl (.inr ⟨rfl,_,_,rfl⟩) ?_ ?_|refine blt_row ?_|exact lt_i _ _|exact lt_bds _ _|exact lt_jts _ _|exact lt_cts _ _|exact lt_k4s _ _|refine lt_agg ?_|exact lt_nil|refine lt_cons ?_ ?_)
  all_goals (try rfl)
 ·rintro ⟨i,hi,hh⟩
  by_cases hlt : i < w.cs.length
  ·have e1:=ilt hlt
   have e2:=isucc hlt (show w.cs.length ≤ maxLen by have:=hw.c; have : maxLen = 9223372036854775807:=rfl; omega)
   have e3:=ct_getD hlt
   have hwc:=hw.c
   have hx:=hw.p _ (getD_mem (d:=Ct.o) hlt)
   have hF : ((w.cs.take (i + 1)).map Ct.key) = ((w.cs.take i).map Ct.key) ++ [(w.cs.getD i Ct.o).key]:=by rw [take_succ_getD w.cs Ct.o hlt,List.map_append]; rfl
   have j1 : HasC Tryz.prog 161 [.agg [.i (w.cs.getD i Ct.o).x,.i (w.cs.getD i Ct.o).y,.sl ((w.cs.getD i Ct.o).ps.map P6.v)]] (.b (mnOk (w.cs.getD i Ct.o).x (w.cs.getD i Ct.o).y (w.cs.getD i Ct.o).ps)):=⟨c_vman _ _ _ (by have : maxLen = 9223372036854775807:=rfl; omega)⟩
   repeat' (first|simp only [go_sem,↓reduceIte,Nat.reduceLT,Nat.reduceEqDiff,Nat.reduceAdd,Nat.reduceLeDiff,Nat.reduceMul,reduceCtorEq,e1,e2,e3,List.length_take]|refine cst_go ?_|refine acond_split (fun _=>?_) (fun _=>?_)|refine And.intro ?_ ?_)
   all_goals (try omega)
   all_goals (try (rename_i h1; rw [h1]; done))
   all_goals (try (rename_i h1 h2; rw [h1,h2]; rfl))
   all_goals (try (rename_i h1 h2 h3; rw [h1,h2,h3]; rfl))
   all_goals (try (rename_i h1 h2 h3 h4; rw [h1,h2,h3,h4]; rfl))
   ·rename_i hc
    refine leaf_b ?_; exact (wC_ct (LS.fail hlt (by unfold ctOkI ctOk; simpa using hc))).symm
   ·rename_i hc
    refine ⟨LS.next hlt hh (by unfold ctOkI ctOk; simpa using hc),Nat.sub_lt_sub_left hlt (Nat.lt_succ_self _),wk_go (by decide) ?_ ?_⟩
    all_goals (try simp only [ls_next_i,hF,List.map_append])
    ·repeat' (first|exact tw_nil|refine tw_cons rfl ?_ ?_|exact lt_i _ _|exact Lt.pt _ _ (by decide)|exact lt_cts _ _|exact Lt.ow _ _ (by decide))
     all_goals (try rfl)
    ·repeat' (first|exact hw_nil|refine hw_cons (by decide) rfl bwk_rfl ?_ ?_|refine blt_row ?_|exact lt_i _ _|exact lt_bds _ _|exact lt_jts _ _|exact lt_cts _ _|exact lt_k4s _ _|refine lt_agg ?_|exact lt_nil|refine lt_cons ?_ ?_|refine lt_app ?_ ?_|refine lt_map (fun _=>?_))
     all_goals (try rfl)
  ·have f1:=inlt hlt
   have hd:=LS.done hlt hh
   repeat' (first|simp only [go_sem,↓reduceIte,Nat.reduceLT,Nat.reduceEqDiff,Nat.reduceAdd,f1])
   have hii : i = w.cs.length:=by omega
   subst hii
   refine ktr_go (tr_frz 1 w.cs.length 40 4 _ rfl ?_)
   simp only [frzT,frz,dropH,List.take_length,← hks,and_self,↓reduceIte,Nat.reduceEqDiff]
   have hwk : wKs w = ks:=hks.symm
   have i1 : HasC Tryz.prog 27 [.sl (ks.map K4.v)] (.b (vkeys ks)):=⟨c_vkeys ks hkm⟩
   have i2 : HasC Tryz.prog 27 [.sl (w.ov.map K4.v)] (.b (vkeys w.ov)):=⟨c_vkeys w.ov hom⟩
   cases hv1 : vkeys ks with
   | false=>
    rw [hv1] at i1
    refine tr_ac hm ?_
    repeat' (first|simp only [go_sem,↓reduceIte,Nat.reduceLT,Nat.reduceEqDiff,Nat.reduceAdd,Nat.reduceLeDiff,reduceCtorEq]|refine cst_go ?_|refine gcst_go ?_)
    all_goals (refine leaf_b ?_; exact (wC_ks (by rw [hwk,hv1]; rfl)).symm)
   | true=>
    rw [hv1] at i1
    cases hv2 : vkeys w.ov with
    | false=>
     rw [hv2] at i2
     refine tr_ac hm ?_
     repeat' (first|simp only [go_sem,↓reduceIte,Nat.reduceLT,Nat.reduceEqDiff,Nat.reduceAdd,Nat.reduceLeDiff,reduceCtorEq]|refine cst_go ?_|refine gcst_go ?_)
     all_goals (refine leaf_b ?_; exact (wC_ks (by rw [hwk,hv1,hv2]; rfl)).symm)
    | true=>
     rw [hv2] at i2
     have i3 : HasC Tryz.prog 163 [.sl [.sl (ks.map K4.v),.sl (w.ov.map K4.v)]] (.sl ((ks ++ w.ov).map K4.v)):=⟨c_concat ks w.ov (by have:=hw.c; omega) hw.o⟩
     have hr:=wC_fx hd (by rw [hwk,hv1,hv2]; rfl)
     rw [hwk] at hr
     rw [hr,← fidx_all]
     have hlm : (ks ++ w.ov).length ≤ maxLen:=by rw [List.length_append]; have:=hw.c; have:=hw.o; have : maxLen = 9223372036854775807:=rfl; omega
     have hl4 : ∀ k ∈ ks ++ w.ov,k4ok k = true:=fun k hk=>by
      rcases List.mem_append.1 hk with h|h
      ·exact vkeys_ok hv1 k h
      ·exact vkeys_ok hv2 k h
     clear hr hd
     generalize ks ++ w.ov = l at *
     refine tr_ac hm ?_
     repeat' (first|with_reducible (first|exact HBs.nil|refine HBs.cons (by decide) ?_ ?_|refine BOk.var ?_|exact Lts.nil|refine Lts.cons ?_ ?_|exact lt_i _ _|exact Lt.pt _ _ (by decide)|exact lt_b _ _|exact lt_bds _ _|exact lt_jts _ _|exact lt_cts _ _|exact lt_k4s _ _|refine lt_agg ?_|exact lt_nil|refine lt_cons ?_ ?_|refine Lt.clo _ _ ?_)|simp only [go_sem,↓reduceIte,Nat.reduceLT,Nat.reduceEqDiff,Nat.reduceAdd,Nat.reduceLeDiff,Nat.reduceMul,Nat.reduceSub,reduceCtorEq,Int.reduceNeg]|refine cst_go ?_|refine gcst_go ?_|refine cst_same (f:=258) (.i (fidx l.length (fxExI w.bs l))) 40 hm Tryz.func258 rfl (by kernel_rfl) Tryz.ntmps258 Tryz.results258 rfl ?_ ?_ ?_ rfl rfl ?_ (by decide) ?_|apply cst_in (f:=162) hm Tryz.func162 rfl (by kernel_rfl) Tryz.ntmps162 Tryz.results162 rfl|exact ⟨rfl,endJ_go rfl,rfl⟩|refine keys_go rfl|refine keep_go rfl)
     all_goals (try omega)
     refine tr_lp hm [0,1,7] [0] (fun x' : LS (l.length) (fxExI w.bs l)=>[(8,.i x'.i)]) (fun x' : LS (l.length) (fxExI w.bs l)=>[]) (fun x'=>l.length - x'.i) (LS.start _ _) ?_ ?_ ?_
     ·repeat' (first|exact tw_nil|refine tw_cons rfl ?_ ?_|exact lt_i _ _|exact Lt.pt _ _ (by decide)|exact lt_k4s _ _|exact lt_nil|refine lt_cons ?_ ?_|refine Lt.clo _ _ ?_)
     ·repeat' (first|exact hw_nil|refine hw_cons (by decide) rfl bwk_rfl ?_ ?_|exact lt_i _ _|exact lt_bds _ _|exact lt_jts _ _|exact lt_cts _ _|exact lt_k4s _ _|refine lt_agg ?_|exact lt_nil|refine lt_cons ?_ ?_)
     ·rintro ⟨i,hi,hh⟩
      by_cases hlt : i < l.length
      ·have e1:=ilt hlt
       have e2:=isucc hlt hlm
       have e3:=k4_getD hlt
       have hq:=hl4 _ (getD_mem (d:=K4.o) hlt)
       have j1 : HasC Tryz.prog 165 [.agg [.i w.ts,.i w.gx,.i w.gy,.i w.it,.i w.ss,.sl (w.bs.map Bd.v),.sl (w.js.map Jt.v),.sl (w.cs.map Ct.v),.sl (w.ov.map K4.v),.i w.nid,.i w.fr],.agg [.i (l.getD i K4.o).a,.i (l.getD i K4.o).fa,.i (l.getD i K4.o).b,.i (l.getD i K4.o).fb]] (.b (fxEx w.bs (l.getD i K4.o))):=⟨c_fxex w hbm _ hq⟩
       repeat' (first|with_reducible (first|exact HBs.nil|refine HBs.cons (by decide) ?_ ?_|refine BOk.var ?_|exact Lts.nil|refine Lts.cons ?_ ?_|exact lt_i _ _|exact Lt.pt _ _ (by decide)|exact lt_b _ _|exact lt_bds _ _|exact lt_jts _ _|exact lt_cts _ _|exact lt_k4s _ _|refine lt_agg ?_|exact lt_nil|refine lt_cons ?_ ?_)|simp only [go_sem,↓reduceIte,Nat.reduceLT,Nat.reduceEqDiff,Nat.reduceAdd,Nat.reduceLeDiff,Nat.reduceSub,reduceCtorEq,Int.reduceNeg,e1,e2,e3]|refine cst_go ?_|apply cst_in (f:=164) hm Tryz.func164 rfl (by kernel_rfl) Tryz.ntmps164 Tryz.results164 rfl|refine acond_split (fun _=>?_) (fun _=>?_)|exact endJ_le rfl rfl|exact HSub.nil|refine HSub.cons rfl ?_|exact ⟨rfl,endJ_go rfl,rfl⟩|refine keys_go rfl|refine keep_go rfl|refine And.intro ?_ ?_)
       all_goals (try omega)
       ·rename_i hc
        refine leaf_i ?_
        exact (fidx_hit hlt hh (by unfold fxExI; simpa using hc)).symm
       ·rename_i hc
        refine ⟨LS.next hlt hh (by unfold fxExI; simpa using hc),Nat.sub_lt_sub_left hlt (Nat.lt_succ_self _),wk_go (by decide) ?_ ?_⟩
        ·repeat' (first|exact tw_nil|refine tw_cons rfl ?_ ?_|exact lt_i _ _|exact Lt.pt _ _ (by decide)|exact lt_k4s _ _|exact lt_nil|refine lt_cons ?_ ?_|refine Lt.clo _ _ ?_)
        ·repeat' (first|exact hw_nil|refine hw_cons (by decide) rfl bwk_rfl ?_ ?_|exact lt_i _ _|exact lt_bds _ _|exact lt_jts _ _|exact lt_cts _ _|exact lt_k4s _ _|refine lt_agg ?_|exact lt_nil|refine lt_cons ?_ ?_)
      ·have f1:=inlt hlt
       repeat' (first|simp only [go_sem,↓reduceIte,Nat.reduceLT,Nat.reduceEqDiff,Nat.reduceAdd,reduceCtorEq,Int.reduceNeg,f1]|exact endJ_le rfl rfl|exact HSub.nil|refine HSub.cons rfl ?_|refine And.intro ?_ ?_)
       all_goals (refine leaf_i ?_; exact (fidx_none hlt (by omega) hh).symm)
end Go.Proofs.YtplmagdbnbijlaaGreat
/-
 Validate of worlds. Conditions: none.
-/
namespace Go.Proofs.YtplmagdbnbijlaaGreat
open Go.RowKit Go.AL Go.Carom
theorem c_rwvc (w : Wd) (hw : WH w) : PCall Tryz.prog 83 [.agg [.i w.ts,.i w.gx,.i w.gy,.i w.it,.i w.ss,.sl (w.bs.map Bd.v),.sl (w.js.map Jt.v),.sl (w.cs.map Ct.v),.sl (w.ov.map K4.v),.i w.nid,.i w.fr]] (.b (wC w)):=by
 refine pcall_of hm Tryz.func83 rfl (by kernel_rfl) (by rw [Tryz.ntmps83]; exact Nat.le_of_ble_eq_true rfl) (lt_cons (lt_agg (lt_cons (lt_i _ _) (lt_cons (lt_i _ _) (lt_cons (lt_i _ _) (lt_cons (lt_i _ _) (lt_cons (lt_i _ _) (lt_cons (lt_bds _ _) (lt_cons (lt_jts _ _) (lt_cons (lt_cts _ _) (lt_cons (lt_k4s _ _) (lt_cons (lt_i _ _) (lt_cons (lt_i _ _) lt_nil)))))))))))) lt_nil) (lt_b _ _) ?_
 rw [Tryz.ntmps83,Tryz.results83]
 obtain ⟨ks,hks⟩ : ∃ ks,ks = w.cs.map Ct.key:=⟨_,rfl⟩
 have hkl : ks.length = w.cs.length:=by rw [hks,List.length_map]
 have hkm : ks.length ≤ maxLen:=by have:=hw.c; have : maxLen = 9223372036854775807:=rfl; omega
 have hom : w.ov.length ≤ maxLen:=(show w.ov.length ≤ maxLen by have:=hw.o; have : maxLen = 9223372036854775807:=rfl; omega)
 have hbm : w.bs.length ≤ maxLen:=(show w.bs.length ≤ maxLen by have:=hw.b; have : maxLen = 9223372036854775807:=rfl; omega)
 have hwk : wKs w = ks:=hks.symm
 have i0 : HasC Tryz.prog 131 [.sl (w.cs.map Ct.v)] (.sl (ks.map K4.v)):=⟨by rw [hks]; exact c_keys w.cs (by have:=hw.c; omega)⟩
 have i1 : HasC Tryz.prog 28 [.sl (ks.map K4.v)] (.b (vkeys ks)):=⟨c_rvkeys ks hkm⟩
 have i2 : HasC Tryz.prog 28 [.sl (w.ov.map K4.v)] (.b (vkeys w.ov)):=⟨c_rvkeys w.ov hom⟩
 have i3 : HasC Tryz.prog 132 [.agg [.i w.ts,.i w.gx,.i w.gy,.i w.it,.i w.ss,.sl (w.bs.map Bd.v),.sl (w.js.map Jt.v),.sl (w.cs.map Ct.v),.sl (w.ov.map K4.v),.i w.nid,.i w.fr],.sl (ks.map K4.v)] (.b ((List.range ks.length).all (fxExI w.bs ks))):=⟨c_res w hbm ks hkm⟩
 have i4 : HasC Tryz.prog 132 [.agg [.i w.ts,.i w.gx,.i w.gy,.i w.it,.i w.ss,.sl (w.bs.map Bd.v),.sl (w.js.map Jt.v),.sl (w.cs.map Ct.v),.sl (w.ov.map K4.v),.i w.nid,.i w.fr],.sl (w.ov.map K4.v)] (.b ((List.range w.ov.length).all (fxExI w.bs w.ov))):=⟨c_res w hbm w.ov hom⟩
 have hT:=wC_rn (w:=w)
 have hF:=wC_r (w:=w)
 rw [hwk] at hT hF
 generalize vkeys ks = v1 at *
 generalize vkeys w.ov = v2 at *
 generalize ((List.range ks.length).all (fxExI w.bs ks)) = r1 at *
 generalize ((List.range w.ov.length).all (fxExI w.bs w.ov)) = r2 at *
 cases hq : (((!v1 || !v2) || !r1) || !r2) with
 | true=>
  repeat' (first|simp only [go_sem,↓reduceIte,Nat.reduceLT,Nat.reduceEqDiff,Nat.reduceAdd,Nat.reduceLeDiff,reduceCtorEq,hq]|refine cst_go ?_|refine gcst_go ?_)
  all_goals (try (rename_i h1 h2; rw [h1,h2]; rfl))
  all_goals (try omega)
  all_goals (try (rename_i h1; rw [h1]; done))
  all_goals (try (rename_i h1 h2; rw [h1,h2]; rfl))
  all_goals (try (rename_i h1 h2 h3; rw [h1,h2,h3]; rfl))
  all_goals (try (rename_i h1 h2 h3 h4; rw [h1,h2,h3,h4]; rfl))
  all_goals (refine leaf_b ?_; exact (hT hq).symm)
 | false=>
  rw [hF hq]
  repeat' (first|simp only [go_sem,↓reduceIte,Nat.reduceLT,Nat.reduceEqDiff,Nat.reduceAdd,Nat.reduceLeDiff,reduceCtorEq,hq]|refine cst_go ?_|refine gcst_go ?_)
  all_goals (try omega)
  all_goals (try (rename_i h1; rw [h1]; done))
  all_goals (try (rename_i h1 h2; rw [h1,h2]; rfl))
  all_goals (try (rename_i h1 h2 h3; rw [h1,h2,h3]; rfl))
  all_goals (try (rename_i h1 h2 h3 h4; rw [h1,h2,h3,h4]; rfl))
  refine tr_lp hm [1] [0] (fun x' : LS (w.cs.length) (ctOkI w.cs)=>[(4,.i x'.i)]) (fun x' : LS (w.cs.length) (ctOkI w.cs)=>[]) (fun x'=>w.cs.length - x'.i) (LS.start _ _) ?_ ?_ ?_
  ·repeat' (first|exact tw_nil|refine tw_cons rfl ?_ ?_|exact lt_i _ _|exact Lt.pt _ _ (by decide))
  ·repeat' (first|exact hw_nil|refine hw_cons (by decide) rfl bwk_rfl ?_ ?_|exact lt_i _ _|exact lt_bds _ _|exact lt_jts _ _|exact lt_cts _ _|exact lt_k4s _ _|refine lt_agg ?_|exact lt_nil|refine lt_cons ?_ ?_)
  ·rintro ⟨i,hi,hh⟩
   by_cases hlt : i < w.cs.length
   ·have e1:=ilt hlt
    have e2:=isucc hlt (show w.cs.length ≤ maxLen by have:=hw.c; have : maxLen = 9223372036854775807:=rfl; omega)
    have e3:=ct_getD hlt
    have hx:=hw.p _ (getD_mem (d:=Ct.o) hlt)
    have j1 : HasC Tryz.prog 133 [.agg [.i (w.cs.getD i Ct.o).x,.i (w.cs.getD i Ct.o).y,.sl ((w.cs.getD i Ct.o).ps.map P6.v)]] (.b (mnOk (w.cs.getD i Ct.o).x (w.cs.getD i Ct.o).y (w.cs.getD i Ct.o).ps)):=⟨c_rvpts _ _ _ (by have : maxLen = 9223372036854775807:=rfl; omega)⟩
    repeat' (first|simp only [go_sem,↓reduceIte,Nat.reduceLT,Nat.reduceEqDiff,Nat.reduceAdd,Nat.reduceLeDiff,reduceCtorEq,e1,e2,e3]|refine cst_go ?_|refine acond_split (fun _=>?_) (fun _=>?_))
    all_goals (try omega)
    all_goals (try (rename_i h1; rw [h1]; done))
    all_goals (try (rename_i h1 h2; rw [h1,h2]; rfl))
    all_goals (try (rename_i h1 h2 h3; rw [h1,h2,h3]; rfl))
    all_goals (try (rename_i h1 h2 h3 h4; rw [h1,h2,h3,h4]; rfl))
    ·rename_i hc
     refine leaf_b ?_; exact (LS.fail hlt (by unfold ctOkI ctOk; simpa using hc)).symm
    ·rename_i hc
     refine ⟨LS.next hlt hh (by unfold ctOkI ctOk; simpa using hc),Nat.sub_lt_sub_left hlt (Nat.lt_succ_self _),wk_go (by decide) ?_ ?_⟩
     ·repeat' (first|exact tw_nil|refine tw_cons rfl ?_ ?_|exact lt_i _ _|exact Lt.pt _ _ (by decide))
     ·repeat' (first|exact hw_nil|refine hw_cons (by decide) rfl bwk_rfl ?_ ?_|exact lt_i _ _|exact lt_bds _ _|exact lt_jts _ _|exact lt_cts _ _|exact lt_k4s _ _|refine lt_agg ?_|exact lt_nil|refine lt_cons ?_ ?_)
   ·have f1:=inlt hlt
    have hd:=LS.done hlt hh
    repeat' (first|simp only [go_sem,↓reduceIte,Nat.reduceLT,Nat.reduceEqDiff,Nat.reduceAdd,Nat.reduceLeDiff,reduceCtorEq,f1])
    all_goals (refine leaf_b ?_; rw [hd])
theorem c_wval (w : Wd) (hw : WH w) : PCall Tryz.prog 55 [.agg [.i w.ts,.i w.gx,.i w.gy,.i w.it,.i w.ss,.sl (w.bs.map Bd.v),.sl (w.js.map Jt.v),.sl (w.cs.map Ct.v),.sl (w.ov.map K4.v),.i w.nid,.i w.fr]] (.i (wval w)):=by
 refine pcall_of hm Tryz.func55 rfl (by kernel_rfl) (by rw [Tryz.ntmps55]; exact Nat.le_of_ble_eq_true rfl) (lt_cons (lt_agg (lt_cons (lt_i _ _) (lt_cons (lt_i _ _) (lt_cons (lt_i _ _) (lt_cons (lt_i _ _) (lt_cons (lt_i _ _) (lt_cons (lt_bds _ _) (lt_cons (lt_jts _ _) (lt_cons (lt_cts _ _) (lt_cons (lt_k4s _ _) (lt_cons (lt_i _ _) (lt_cons (lt_i _ _) lt_nil)))))))))))) lt_nil) (lt_i _ _) ?_
 rw [Tryz.ntmps55,Tryz.results55]
 have hv : wval w = if setOk w = false then 17 else if wcount w = true then 11 else if wR w = false then 6 else if wB w = false then 14 else if wJ w = false then 15 else if wC w = false then 16 else 0:=rfl
 have hn:=wcount_i w
 have hr : (!inR w.nid 1 1099511627776 || !inR w.fr 0 1099511627776) = !wR w:=by unfold wR; simp only [Bool.not_and]
 have i1 : HasC Tryz.prog 103 [.agg [.i w.ts,.i w.gx,.i w.gy,.i w.it,.i w.ss]] (.i (if setOk w = false then 6 else 0)):=⟨c_vset w⟩
 have i2 : HasC Tryz.prog 105 [.agg [.i w.ts,.i w.gx,.i w.gy,.i w.it,.i w.ss,.sl (w.bs.map Bd.v),.sl (w.js.map Jt.v),.sl (w.cs.map Ct.v),.sl (w.ov.map K4.v),.i w.nid,.i w.fr]] (.b (wB w)):=⟨c_wvb w hw⟩
 have i3 : HasC Tryz.prog 106 [.agg [.i w.ts,.i w.gx,.i w.gy,.i w.it,.i w.ss,.sl (w.bs.map Bd.v),.sl (w.js.map Jt.v),.sl (w.cs.map Ct.v),.sl (w.ov.map K4.v),.i w.nid,.i w.fr]] (.b (wJ w)):=⟨c_wvj w hw⟩
 have i4 : HasC Tryz.prog 107 [.agg [.i w.ts,.i w.gx,.i w.gy,.i w.it,.i w.ss,.sl (w.bs.map Bd.v),.sl (w.js.map Jt.v),.sl (w.cs.map Ct.v),.sl (w.ov.map K4.v),.i w.nid,.i w.fr]] (.b (wC w)):=⟨c_wvc w hw⟩
 rw [hv]
 clear hv
 generalize setOk w = S at *
 generalize wcount w = N at *
 generalize wR w = R at *
 generalize wB w = B at *
 generalize wJ w = J at *
 generalize wC w = X at *
 cases S with
 | false=>
  have i1':=i1
  rw [if_pos rfl] at i1'
  clear i1
  repeat' (first|simp only [go_sem,↓reduceIte,Nat.reduceLT,Nat.reduceEqDiff,Nat.reduceAdd,Nat.reduceLeDiff,reduceCtorEq,Int.reduceEq]|refine cst_go ?_)
  all_goals (try rfl)
 | true=>
  have i1':=i1
  rw [if_neg (by decide)] at i1'
  clear i1
  cases N with
  | true=>
   repeat' (first|simp only [go_sem,↓reduceIte,Nat.reduceLT,Nat.reduceEqDiff,Nat.reduceAdd,Nat.reduceLeDiff,reduceCtorEq,hn]|refine cst_go ?_)
   all_goals (try omega)
   all_goals (try (rename_i h1; rw [h1]; done))
   all_goals (try (rename_i h1 h2; rw [h1,h2]; rfl))
   all_goals (try (rename_i h1 h2 h3; rw [h1,h2,h3]; rfl))
   all_goals (try (rename_i h1 h2 h3 h4; rw [h1,h2,h3,h4]; rfl))
   all_goals (try rfl)
  | false=>
   cases R with
   | false=>
    repeat' (first|simp only [go_sem,↓reduceIte,Nat.reduceLT,Nat.reduceEqDiff,Nat.reduceAdd,Nat.reduceLeDiff,reduceCtorEq,hn,hr]|refine cst_go ?_|refine gcst_go ?_)
    all_goals (try omega)
    all_goals (try (rename_i h1; rw [h1]; done))
    all_goals (try (rename_i h1 h2; rw [h1,h2]; rfl))
    all_goals (try (rename_i h1 h2 h3; rw [h1,h2,h3]; rfl))
    all_goals (try (rename_i h1 h2 h3 h4; rw [h1,h2,h3,h4]; rfl))
    all_goals (try rfl)
   | true=>
    cases B with
    | false=>
     repeat' (first|simp only [go_sem,↓reduceIte,Nat.reduceLT,Nat.reduceEqDiff,Nat.reduceAdd,Nat.reduceLeDiff,reduceCtorEq,hn,hr]|refine cst_go ?_|refine gcst_go ?_)
     all_goals (try omega)
     all_goals (try (rename_i h1; rw [h1]; done))
     all_goals (try (rename_i h1 h2; rw [h1,h2]; rfl))
     all_goals (try (rename_i h1 h2 h3; rw [h1,h2,h3]; rfl))
     all_goals (try (rename_i h1 h2 h3 h4; rw [h1,h2,h3,h4]; rfl))
     all_goals (try rfl)
    | true=>
     cases J with
     | false=>
      repeat' (first|simp only [go_sem,↓reduceIte,Nat.reduceLT,Nat.reduceEqDiff,Nat.reduceAdd,Nat.reduceLeDiff,reduceCtorEq,hn,hr]|refine cst_go ?_|refine gcst_go ?_)
      all_goals (try omega)
      all_goals (try (rename_i h1; rw [h1]; done))
      all_goals (try (rename_i h1 h2; rw [h1,h2]; rfl))
      all_goals (try (rename_i h1 h2 h3; rw [h1,h2,h3]; rfl))
      all_goals (try (rename_i h1 h2 h3 h4; rw [h1,h2,h3,h4]; rfl))
      all_goals (try rfl)
     | true=>
      cases X <;> (repeat' (first|simp only [go_sem,↓reduceIte,Nat.reduceLT,Nat.reduceEqDiff,Nat.reduceAdd,Nat.reduceLeDiff,reduceCtorEq,hn,hr]|refine cst_go ?_|refine gcst_go ?_))
      all_goals (try omega)
      all_goals (try (rename_i h1; rw [h1]; done))
      all_goals (try (rename_i h1 h2; rw [h1,h2]; rfl))
      all_goals (try (rename_i h1 h2 h3; rw [h1,h2,h3]; rfl))
      all_goals (try (rename_i h1 h2 h3 h4; rw [h1,h2,h3,h4]; rfl))
      all_goals (try rfl)
theorem c_rwval (w : Wd) (hw : WH w) : PCall Tryz.prog 38 [.agg [.i w.ts,.i w.gx,.i w.gy,.i w.it,.i w.ss,.sl (w.bs.map Bd.v),.sl (w.js.map Jt.v),.sl (w.cs.map Ct.v),.sl (w.ov.map K4.v),.i w.nid,.i w.fr]] (.i (wval w)):=by
 refine pcall_of hm Tryz.func38 rfl (by kernel_rfl) (by rw [Tryz.ntmps38]; exact Nat.le_of_ble_eq_true rfl) (lt_cons (lt_agg (lt_cons (lt_i _ _) (lt_cons (lt_i _ _) (lt_cons (lt_i _ _) (lt_cons (lt_i _ _) (lt_cons (lt_i _ _) (lt_cons (lt_bds _ _) (lt_cons (lt_jts _ _) (lt_cons (lt_cts _ _) (lt_cons (lt_k4s _ _) (lt_cons (lt_i _ _) (lt_cons (lt_i _ _) lt_nil)))))))))))) lt_nil) (lt_i _ _) ?_
 rw [Tryz.ntmps38,Tryz.results38]
 have hv : wval w = if setOk w = false then 17 else if wcount w = true then 11 else if wR w = false then 6 else if wB w = false then 14 else if wJ w = false then 15 else if wC w = false then 16 else 0:=rfl
 have hn:=wcount_i w
 have hr : (!inR w.nid 1 1099511627776 || !inR w.fr 0 1099511627776) = !wR w:=by unfold wR; simp only [Bool.not_and]
 have i1 : HasC Tryz.prog 79 [.agg [.i w.ts,.i w.gx,.i w.gy,.i w.it,.i w.ss]] (.i (if setOk w = false then 6 else 0)):=⟨c_rvset w⟩
 have i2 : HasC Tryz.prog 81 [.agg [.i w.ts,.i w.gx,.i w.gy,.i w.it,.i w.ss,.sl (w.bs.map Bd.v),.sl (w.js.map Jt.v),.sl (w.cs.map Ct.v),.sl (w.ov.map K4.v),.i w.nid,.i w.fr]] (.b (wB w)):=⟨c_rwvb w hw⟩
 have i3 : HasC Tryz.prog 82 [.agg [.i w.ts,.i w.gx,.i w.gy,.i w.it,.i w.ss,.sl (w.bs.map Bd.v),.sl (w.js.map Jt.v),.sl (w.cs.map Ct.v),.sl (w.ov.map K4.v),.i w.nid,.i w.fr]] (.b (wJ w)):=⟨c_rwvj w hw⟩
 have i4 : HasC Tryz.prog 83 [.agg [.i w.ts,.i w.gx,.i w.gy,.i w.it,.i w.ss,.sl (w.bs.map Bd.v),.sl (w.js.map Jt.v),.sl (w.cs.map Ct.v),.sl (w.ov.map K4.v),.i w.nid,.i w.fr]] (.b (wC w)):=⟨c_rwvc w hw⟩
 rw [hv]
 clear hv
 generalize setOk w = S at *
 generalize wcount w = N at *
 generalize wR w = R at *
 generalize wB w = B at *
 generalize wJ w = J at *
 generalize wC w = X at *
 cases S with
 | false=>
  have i1':=i1
  rw [if_pos rfl] at i1'
  clear i1
  repeat' (first|simp only [go_sem,↓reduceIte,Nat.reduceLT,Nat.reduceEqDiff,Nat.reduceAdd,Nat.reduceLeDiff,reduceCtorEq,Int.reduceEq]|refine cst_go ?_)
  all_goals (try rfl)
 | true=>
  have i1':=i1
  rw [if_neg (by decide)] at i1'
  clear i1
  cases N with
  | true=>
   repeat' (first|simp only [go_sem,↓reduceIte,Nat.reduceLT,Nat.reduceEqDiff,Nat.reduceAdd,Nat.reduceLeDiff,reduceCtorEq,hn]|refine cst_go ?_)
   all_goals (try omega)
   all_goals (try (rename_i h1; rw [h1]; done))
   all_goals (try (rename_i h1 h2; rw [h1,h2]; rfl))
   all_goals (try (rename_i h1 h2 h3; rw [h1,h2,h3]; rfl))
   all_goals (try (rename_i h1 h2 h3 h4; rw [h1,h2,h3,h4]; rfl))
   all_goals (try rfl)
  | false=>
   cases R with
   | false=>
    repeat' (first|simp only [go_sem,↓reduceIte,Nat.reduceLT,Nat.reduceEqDiff,Nat.reduceAdd,Nat.reduceLeDiff,reduceCtorEq,hn,hr]|refine cst_go ?_|refine gcst_go ?_)
    all_goals (try omega)
    all_goals (try (rename_i h1; rw [h1]; done))
    all_goals (try (rename_i h1 h2; rw [h1,h2]; rfl))
    all_goals (try (rename_i h1 h2 h3; rw [h1,h2,h3]; rfl))
    all_goals (try (rename_i h1 h2 h3 h4; rw [h1,h2,h3,h4]; rfl))
    all_goals (try rfl)
   | true=>
    cases B with
    | false=>
     repeat' (first|simp only [go_sem,↓reduceIte,Nat.reduceLT,Nat.reduceEqDiff,Nat.reduceAdd,Nat.reduceLeDiff,reduceCtorEq,hn,hr]|refine cst_go ?_|refine gcst_go ?_)
     all_goals (try omega)
     all_goals (try (rename_i h1; rw [h1]; done))
     all_goals (try (rename_i h1 h2; rw [h1,h2]; rfl))
     all_goals (try (rename_i h1 h2 h3; rw [h1,h2,h3]; rfl))
     all_goals (try (rename_i h1 h2 h3 h4; rw [h1,h2,h3,h4]; rfl))
     all_goals (try rfl)
    | true=>
     cases J with
     | false=>
      repeat' (first|simp only [go_sem,↓reduceIte,Nat.reduceLT,Nat.reduceEqDiff,Nat.reduceAdd,Nat.reduceLeDiff,reduceCtorEq,hn,hr]|refine cst_go ?_|refine gcst_go ?_)
      all_goals (try omega)
      all_goals (try (rename_i h1; rw [h1]; done))
      all_goals (try (rename_i h1 h2; rw [h1,h2]; rfl))
      all_goals (try (rename_i h1 h2 h3; rw [h1,h2,h3]; rfl))
      all_goals (try (rename_i h1 h2 h3 h4; rw [h1,h2,h3,h4]; rfl))
      all_goals (try rfl)
     | true=>
      cases X <;> (repeat' (first|simp only [go_sem,↓reduceIte,Nat.reduceLT,Nat.reduceEqDiff,Nat.reduceAdd,Nat.reduceLeDiff,reduceCtorEq,hn,hr]|refine cst_go ?_|refine gcst_go ?_))
      all_goals (try omega)
      all_goals (try (rename_i h1; rw [h1]; done))
      all_goals (try (rename_i h1 h2; rw [h1,h2]; rfl))
      all_goals (try (rename_i h1 h2 h3; rw [h1,h2,h3]; rfl))
      all_goals (try (rename_i h1 h2 h3 h4; rw [h1,h2,h3,h4]; rfl))
      all_goals (try rfl)
end Go.Proofs.YtplmagdbnbijlaaGreat
/-
 Small worlds. Conditions: none.
-/
namespace Go.Proofs.YtplmagdbnbijlaaGreat
open Go.RowKit Go.AL Go.Carom
end Go.Proofs.YtplmagdbnbijlaaGreat
