/-
  What the functions of chapter 27 compute: warm starting. Conditions: none.
-/
import Derived.Test.YtplmagdbnbijlaaGreatCX
import Derived.Test.YtplmagdbnbijlaaGreatMC
import Derived.Test.YtplmagdbnbijlaaGreatAlC
import Derived.Outline
import Derived.Test.YtplmagdbnbijlaaGreatC28
set_option maxHeartbeats 4000000
set_option maxRecDepth 20000
set_option linter.all false
namespace Go.Proofs.YtplmagdbnbijlaaGreat
open Go.RowKit Go.AL Go.Carom
theorem c_ws (ox oy : Int) (old : List P6) (h1 : old.length ≤ 1000000) (nx ny : Int) (now : List P6) (h2 : now.length ≤ 1000000) : PCall Tryz.prog 93 [.agg [.i ox,.i oy,.sl (old.map P6.v)],.agg [.i nx,.i ny,.sl (now.map P6.v)]] (.agg [.i nx,.i ny,.sl ((now.map (wsP old (wsA ox oy nx ny))).map P6.v)]):=by
 refine pcall_of hm Tryz.func93 rfl (by kernel_rfl) (by rw [Tryz.ntmps93]; exact Nat.le_of_ble_eq_true rfl) (lt_cons (lt_agg (lt_cons (lt_i _ _) (lt_cons (lt_i _ _) (lt_cons (lt_p6s _ _) lt_nil)))) (lt_cons (lt_agg (lt_cons (lt_i _ _) (lt_cons (lt_i _ _) (lt_cons (lt_p6s _ _) lt_nil)))) lt_nil)) (lt_agg (lt_cons (lt_i _ _) (lt_cons (lt_i _ _) (lt_cons (lt_p6s _ _) lt_nil)))) ?_
 rw [Tryz.ntmps93,Tryz.results93]
 have hm1 : maxLen = 9223372036854775807:=rfl
 by_cases hz : now = []
 ·subst hz
  have i1 : HasC Tryz.prog 141 [.agg [.i nx,.i ny,.sl []]] (.agg [.i nx,.i ny,.sl []]):=⟨c_mcln nx ny [] h2⟩
  repeat' (first|simp only [go_sem,↓reduceIte,Nat.reduceLT,Nat.reduceEqDiff,Nat.reduceAdd,Nat.reduceLeDiff,reduceCtorEq,imp_self,true_and,and_true,List.map_nil,nc0]|refine cst_go ?_)
  refine tr_rounds hm .z ?_
  repeat' (first|simp only [go_sem,↓reduceIte,Nat.reduceLT,Nat.reduceEqDiff,Nat.reduceAdd,Nat.reduceLeDiff,reduceCtorEq,imp_self,Int.reduceLT,decide_false,acond_ff,and_true,List.map_nil])
  all_goals (try rfl)
 ·have k0 : 0 < now.length:=List.length_pos_iff.2 hz
  have k1 : (0 < now.length) = True:=eq_true k0
  have k2 : (now.length ≤ 9223372036854775807) = True:=eq_true (by omega)
  have k3 : (0 + now.length ≤ 9223372036854775807) = True:=eq_true (by omega)
  repeat' (first|with_reducible (first|exact HBs.nil|refine HBs.cons (by decide) ?_ ?_|refine BOk.var ?_|exact BOk.nl|refine BOk.row ?_|exact Lts.nil|refine Lts.cons ?_ ?_|exact lt_i _ _|exact Lt.ow _ _ (by decide)|refine lt_agg ?_|exact lt_nil|refine lt_cons ?_ ?_|refine Lt.sl _ ?_|refine lt_map (fun _=>?_)|exact lt_p6 _ _)|simp only [go_sem,↓reduceIte,Nat.reduceLT,Nat.reduceEqDiff,Nat.reduceAdd,Nat.reduceLeDiff,Nat.reduceMul,Nat.reduceSub,reduceCtorEq,imp_self,decide_true,or_false,List.range_zero,List.replicate_zero,List.flatten_nil,List.all_nil,forall_and,List.length_map,true_and,and_true,k1,k3]|refine cst_go ?_|apply cst_in (f:=141) hm Tryz.func141 rfl (by kernel_rfl) Tryz.ntmps141 Tryz.results141 rfl|apply cst_in (f:=216) hm Tryz.func216 rfl (by kernel_rfl) Tryz.ntmps216 Tryz.results216 rfl|exact ⟨rfl,endJ_go rfl,rfl⟩|refine keys_go rfl|refine keep_go rfl|refine And.intro ?_ ?_)
  all_goals first
   | exact p6s_len now
   | exact p6s_one now
   | omega
   | skip
  refine tr_lp hm [2,4,5,6,20] [0,2,3,10] (fun x : Fs now.length=>[(21,.i x.i)]) (fun x : Fs now.length=>[(8,.row 150 6 1 ((mapTo (wsP old (wsA ox oy nx ny)) now x.i).map P6.v))]) (fun x=>now.length - x.i) (Fs.start _) ?_ ?_ ?_
  ·repeat' (first|exact tw_nil|refine tw_cons rfl ?_ ?_|exact lt_i _ _|exact lt_b _ _|exact Lt.pt _ _ (by decide))
  ·repeat' (first|exact hw_nil|refine hw_cons (by decide) rfl bwk_rfl ?_ ?_|exact trivial|refine blt_row ?_|exact lt_i _ _|exact Lt.ow _ _ (by decide)|refine lt_agg ?_|exact lt_nil|refine lt_cons ?_ ?_|refine Lt.sl _ ?_|refine lt_map (fun _=>?_))
   all_goals (show some (ABox.row _ _ _ _) = some (ABox.row _ _ _ _); rw [show (Fs.start now.length).i = 0 from rfl,mapTo_zero])
  ·rintro ⟨i,hi⟩
   by_cases hlt : i < now.length
   ·have e1:=ilt hlt
    have e2:=isucc hlt (show now.length ≤ maxLen by omega)
    have hset:=mapTo_set (wsP old (wsA ox oy nx ny)) now P6.o hlt
    have hget:=mapTo_get (wsP old (wsA ox oy nx ny)) now P6.o hlt
    have hlen:=mapTo_len (wsP old (wsA ox oy nx ny)) now i
    generalize mapTo (wsP old (wsA ox oy nx ny)) now i = L at *
    generalize hp : now.getD i P6.o = p at *
    have hltL : i < L.length:=by omega
    have g1 : (L.map P6.v).getD i .und = .agg [.i p.a,.i p.b,.i p.c,.i p.d,.i p.e,.i p.f]:=by rw [p6_getD hltL,hget]
    have g2 : ∀ v,((L.map P6.v).set i v).getD i .und = v:=fun v=>set_getD (by rw [List.length_map]; exact hltL)
    have g3 : ∀ v,(((L.map P6.v).set i v).length : Int) = now.length:=fun v=>by rw [List.length_set,List.length_map,hlen]
    have g4 : ((L.map P6.v).length : Int) = now.length:=by rw [List.length_map,hlen]
    have g6 : ((i : Int) < (L.length : Int)) = True:=eq_true (by omega)
    have g7 : (i < L.length) = True:=eq_true hltL
    have g5 : ∀ v v',((L.map P6.v).set i v).set i v' = (L.map P6.v).set i v':=fun v v'=>List.set_set ..
    have hR:=wsK_R old p.d
    by_cases ha : wsA ox oy nx ny = true
    ·have a1 : decide (32768 ≤ vdot ox oy nx ny) = true:=ha
     by_cases hk : 0 ≤ wsK old p.d
     ·have d1 : (0 ≤ wsK old p.d) = True:=eq_true hk
      obtain ⟨d2,d3⟩:=hR.1 hk
      have d4 : (wsK old p.d < (old.length : Int)) = True:=eq_true d2
      have d5:=p6_getD (l:=old) (i:=(wsK old p.d).toNat) (by omega)
      have hst : (L.map P6.v).set i (.agg [.i p.a,.i p.b,.i p.c,.i p.d,.i (old.getD (wsK old p.d).toNat P6.o).e,.i (old.getD (wsK old p.d).toNat P6.o).f]) = (mapTo (wsP old (wsA ox oy nx ny)) now (i + 1)).map P6.v:=by
       rw [← hset]
       unfold wsP
       rw [if_pos ha,← d3]
       exact map_set' P6.v L i ⟨p.a,p.b,p.c,p.d,(old.getD (wsK old p.d).toNat P6.o).e,(old.getD (wsK old p.d).toNat P6.o).f⟩
      repeat' (first|with_reducible (first|exact HBs.nil|refine HBs.cons (by decide) ?_ ?_|refine BOk.var ?_|exact BOk.nl|refine BOk.row ?_|exact Lts.nil|refine Lts.cons ?_ ?_|exact lt_i _ _|exact Lt.pt _ _ (by decide)|exact Lt.ow _ _ (by decide)|exact Lt.rp _ _ _ _ _ (by decide)|refine lt_agg ?_|exact lt_nil|refine lt_cons ?_ ?_|refine Lt.sl _ ?_|refine lt_map (fun _=>?_)|refine Lt.clo _ _ ?_|exact lt_p6 _ _)|simp only [go_sem,↓reduceIte,Nat.reduceLT,Nat.reduceEqDiff,Nat.reduceAdd,Nat.reduceLeDiff,Nat.reduceSub,reduceCtorEq,imp_self,Int.reduceNeg,decide_true,acond_tt,icast,inn,List.length_map,true_and,and_true,e1,e2,g1,g2,g5,g6,g7,List.length_set,List.length_map,a1,d1,d4,d5]|refine cst_same (f:=143) (.i (wsK old p.d)) 20 hm Tryz.func143 rfl (by kernel_rfl) Tryz.ntmps143 Tryz.results143 rfl ?_ ?_ ?_ rfl rfl ?_ (by decide) ?_|(refine regOk_go ?_; kernel_rfl)|refine lt_set ?_ ?_|refine And.intro ?_ ?_)
      ·refine tr_lp hm [0,1,7] [0,1,2,3,4,5,6,7,8,9,10,11,12,13,14,15,16,17,18,19,20,21,22,23] (fun x : LS old.length (fun j=>!decide ((old.getD j P6.o).d = p.d))=>[(8,.i x.i)]) (fun x : LS old.length (fun j=>!decide ((old.getD j P6.o).d = p.d))=>[]) (fun x=>old.length - x.i) (LS.start _ _) ?_ ?_ ?_
       ·repeat' (first|exact tw_nil|refine tw_cons rfl ?_ ?_|exact lt_i _ _|exact Lt.pt _ _ (by decide)|refine lt_agg ?_|exact lt_nil|refine lt_cons ?_ ?_|refine Lt.sl _ ?_|refine lt_map (fun _=>?_)|refine Lt.clo _ _ ?_)
       ·repeat' (first|exact hw_nil|refine hw_cons (by decide) rfl bwk_rfl ?_ ?_|exact trivial|refine blt_row ?_|refine lt_set ?_ ?_|exact lt_i _ _|exact Lt.ow _ _ (by decide)|exact Lt.rp _ _ _ _ _ (by decide)|refine lt_agg ?_|exact lt_nil|refine lt_cons ?_ ?_|refine Lt.sl _ ?_|refine lt_map (fun _=>?_))
       ·rintro ⟨j,hj,hh⟩
        by_cases hlj : j < old.length
        ·have f1:=ilt hlj
         have f2:=isucc hlj (show old.length ≤ maxLen by omega)
         have f3:=p6_getD hlj
         repeat' (first|with_reducible (first|exact HBs.nil|refine HBs.cons (by decide) ?_ ?_|refine BOk.var ?_|exact BOk.nl|refine BOk.row ?_|exact Lts.nil|refine Lts.cons ?_ ?_|exact lt_i _ _|exact lt_b _ _|exact Lt.pt _ _ (by decide)|exact Lt.ow _ _ (by decide)|exact Lt.rp _ _ _ _ _ (by decide)|refine lt_agg ?_|exact lt_nil|refine lt_cons ?_ ?_|refine Lt.sl _ ?_|refine lt_map (fun _=>?_)|exact lt_p6 _ _)|simp only [go_sem,↓reduceIte,Nat.reduceLT,Nat.reduceEqDiff,Nat.reduceAdd,Nat.reduceLeDiff,Nat.reduceSub,reduceCtorEq,imp_self,Int.reduceNeg,decide_true,acond_tt,icast,inn,List.length_map,true_and,and_true,f1,f2,f3,g2,g7,List.length_set,List.length_map]|apply cst_in (f:=144) hm Tryz.func144 rfl (by kernel_rfl) Tryz.ntmps144 Tryz.results144 rfl|(refine regOk_go ?_; kernel_rfl)|refine acond_split (fun _=>?_) (fun _=>?_)|refine lt_set ?_ ?_|exact endJ_le rfl rfl|exact HSub.nil|refine HSub.cons rfl ?_|exact ⟨rfl,endJ_go rfl,rfl⟩|refine keys_go rfl|refine keep_go rfl|refine And.intro ?_ ?_)
         ·rename_i hc
          refine leaf_i ?_
          exact (fidx_hit hlj hh (by rw [hc]; rfl)).symm
         ·rename_i hc
          refine ⟨LS.next hlj hh (by rw [hc]; rfl),Nat.sub_lt_sub_left hlj (Nat.lt_succ_self _),wk_go (by decide) ?_ ?_⟩
          ·repeat' (first|exact tw_nil|refine tw_cons rfl ?_ ?_|exact lt_i _ _|exact Lt.pt _ _ (by decide)|refine lt_agg ?_|exact lt_nil|refine lt_cons ?_ ?_|refine Lt.sl _ ?_|refine lt_map (fun _=>?_)|refine Lt.clo _ _ ?_)
          ·repeat' (first|exact hw_nil|refine hw_cons (by decide) rfl bwk_rfl ?_ ?_|exact trivial|refine blt_row ?_|refine lt_set ?_ ?_|exact lt_i _ _|exact Lt.ow _ _ (by decide)|exact Lt.rp _ _ _ _ _ (by decide)|refine lt_agg ?_|exact lt_nil|refine lt_cons ?_ ?_|refine Lt.sl _ ?_|refine lt_map (fun _=>?_))
        ·have f1:=inlt hlj
         repeat' (first|simp only [go_sem,↓reduceIte,Nat.reduceLT,Nat.reduceEqDiff,Nat.reduceAdd,reduceCtorEq,Int.reduceNeg,decide_false,acond_ff,true_and,and_true,f1]|exact endJ_le rfl rfl|exact HSub.nil|refine HSub.cons rfl ?_|refine And.intro ?_ ?_)
         refine leaf_i ?_
         exact (fidx_none hlj (by omega) hh).symm
      ·refine ⟨Fs.next hlt,Nat.sub_lt_sub_left hlt (Nat.lt_succ_self _),wk_go (by decide) ?_ ?_⟩
       ·repeat' (first|exact tw_nil|refine tw_cons rfl ?_ ?_|exact lt_i _ _|exact lt_b _ _|exact Lt.pt _ _ (by decide))
       ·repeat' (first|exact hw_nil|refine hw_cons (by decide) rfl bwk_rfl ?_ ?_|refine hw_cons (by decide) ?_ bwk_rfl ?_ ?_|exact trivial|refine blt_row ?_|exact lt_i _ _|exact Lt.ow _ _ (by decide)|refine lt_agg ?_|exact lt_nil|refine lt_cons ?_ ?_|refine Lt.sl _ ?_|refine lt_map (fun _=>?_))
        all_goals (show some (ABox.row _ _ _ _) = some (ABox.row _ _ _ _); rw [show (Fs.next hlt).i = i + 1 from rfl,← hst]; try rfl)
     ·have d1 : (0 ≤ wsK old p.d) = False:=eq_false hk
      have hst : (L.map P6.v).set i (.agg [.i p.a,.i p.b,.i p.c,.i p.d,.i 0,.i 0]) = (mapTo (wsP old (wsA ox oy nx ny)) now (i + 1)).map P6.v:=by
       rw [← hset]
       unfold wsP
       rw [if_pos ha,hR.2 hk]
       exact map_set' P6.v L i ⟨p.a,p.b,p.c,p.d,0,0⟩
      repeat' (first|with_reducible (first|exact HBs.nil|refine HBs.cons (by decide) ?_ ?_|refine BOk.var ?_|exact BOk.nl|refine BOk.row ?_|exact Lts.nil|refine Lts.cons ?_ ?_|exact lt_i _ _|exact Lt.pt _ _ (by decide)|exact Lt.ow _ _ (by decide)|exact Lt.rp _ _ _ _ _ (by decide)|refine lt_agg ?_|exact lt_nil|refine lt_cons ?_ ?_|refine Lt.sl _ ?_|refine lt_map (fun _=>?_)|refine Lt.clo _ _ ?_|exact lt_p6 _ _)|simp only [go_sem,↓reduceIte,Nat.reduceLT,Nat.reduceEqDiff,Nat.reduceAdd,Nat.reduceLeDiff,Nat.reduceSub,reduceCtorEq,imp_self,Int.reduceNeg,decide_true,decide_false,acond_tt,acond_ff,icast,inn,List.length_map,true_and,and_true,Bool.and_false,e1,e2,g1,g2,g5,g6,g7,List.length_set,List.length_map,a1,d1]|refine cst_same (f:=143) (.i (wsK old p.d)) 20 hm Tryz.func143 rfl (by kernel_rfl) Tryz.ntmps143 Tryz.results143 rfl ?_ ?_ ?_ rfl rfl ?_ (by decide) ?_|(refine regOk_go ?_; kernel_rfl)|refine lt_set ?_ ?_|refine And.intro ?_ ?_)
      ·refine tr_lp hm [0,1,7] [0,1,2,3,4,5,6,7,8,9,10,11,12,13,14,15,16,17,18,19,20,21,22,23] (fun x : LS old.length (fun j=>!decide ((old.getD j P6.o).d = p.d))=>[(8,.i x.i)]) (fun x : LS old.length (fun j=>!decide ((old.getD j P6.o).d = p.d))=>[]) (fun x=>old.length - x.i) (LS.start _ _) ?_ ?_ ?_
       ·repeat' (first|exact tw_nil|refine tw_cons rfl ?_ ?_|exact lt_i _ _|exact Lt.pt _ _ (by decide)|refine lt_agg ?_|exact lt_nil|refine lt_cons ?_ ?_|refine Lt.sl _ ?_|refine lt_map (fun _=>?_)|refine Lt.clo _ _ ?_)
       ·repeat' (first|exact hw_nil|refine hw_cons (by decide) rfl bwk_rfl ?_ ?_|exact trivial|refine blt_row ?_|refine lt_set ?_ ?_|exact lt_i _ _|exact Lt.ow _ _ (by decide)|exact Lt.rp _ _ _ _ _ (by decide)|refine lt_agg ?_|exact lt_nil|refine lt_cons ?_ ?_|refine Lt.sl _ ?_|refine lt_map (fun _=>?_))
       ·rintro ⟨j,hj,hh⟩
        by_cases hlj : j < old.length
        ·have f1:=ilt hlj
         have f2:=isucc hlj (show old.length ≤ maxLen by omega)
         have f3:=p6_getD hlj
         repeat' (first|with_reducible (first|exact HBs.nil|refine HBs.cons (by decide) ?_ ?_|refine BOk.var ?_|exact BOk.nl|refine BOk.row ?_|exact Lts.nil|refine Lts.cons ?_ ?_|exact lt_i _ _|exact lt_b _ _|exact Lt.pt _ _ (by decide)|exact Lt.ow _ _ (by decide)|exact Lt.rp _ _ _ _ _ (by decide)|refine lt_agg ?_|exact lt_nil|refine lt_cons ?_ ?_|refine Lt.sl _ ?_|refine lt_map (fun _=>?_)|exact lt_p6 _ _)|simp only [go_sem,↓reduceIte,Nat.reduceLT,Nat.reduceEqDiff,Nat.reduceAdd,Nat.reduceLeDiff,Nat.reduceSub,reduceCtorEq,imp_self,Int.reduceNeg,decide_true,acond_tt,icast,inn,List.length_map,true_and,and_true,f1,f2,f3,g2,g7,List.length_set,List.length_map]|apply cst_in (f:=144) hm Tryz.func144 rfl (by kernel_rfl) Tryz.ntmps144 Tryz.results144 rfl|(refine regOk_go ?_; kernel_rfl)|refine acond_split (fun _=>?_) (fun _=>?_)|refine lt_set ?_ ?_|exact endJ_le rfl rfl|exact HSub.nil|refine HSub.cons rfl ?_|exact ⟨rfl,endJ_go rfl,rfl⟩|refine keys_go rfl|refine keep_go rfl|refine And.intro ?_ ?_)
         ·rename_i hc
          refine leaf_i ?_
          exact (fidx_hit hlj hh (by rw [hc]; rfl)).symm
         ·rename_i hc
          refine ⟨LS.next hlj hh (by rw [hc]; rfl),Nat.sub_lt_sub_left hlj (Nat.lt_succ_self _),wk_go (by decide) ?_ ?_⟩
          ·repeat' (first|exact tw_nil|refine tw_cons rfl ?_ ?_|exact lt_i _ _|exact Lt.pt _ _ (by decide)|refine lt_agg ?_|exact lt_nil|refine lt_cons ?_ ?_|refine Lt.sl _ ?_|refine lt_map (fun _=>?_)|refine Lt.clo _ _ ?_)
          ·repeat' (first|exact hw_nil|refine hw_cons (by decide) rfl bwk_rfl ?_ ?_|exact trivial|refine blt_row ?_|refine lt_set ?_ ?_|exact lt_i _ _|exact Lt.ow _ _ (by decide)|exact Lt.rp _ _ _ _ _ (by decide)|refine lt_agg ?_|exact lt_nil|refine lt_cons ?_ ?_|refine Lt.sl _ ?_|refine lt_map (fun _=>?_))
        ·have f1:=inlt hlj
         repeat' (first|simp only [go_sem,↓reduceIte,Nat.reduceLT,Nat.reduceEqDiff,Nat.reduceAdd,reduceCtorEq,Int.reduceNeg,decide_false,acond_ff,true_and,and_true,f1]|exact endJ_le rfl rfl|exact HSub.nil|refine HSub.cons rfl ?_|refine And.intro ?_ ?_)
         refine leaf_i ?_
         exact (fidx_none hlj (by omega) hh).symm
      ·refine ⟨Fs.next hlt,Nat.sub_lt_sub_left hlt (Nat.lt_succ_self _),wk_go (by decide) ?_ ?_⟩
       ·repeat' (first|exact tw_nil|refine tw_cons rfl ?_ ?_|exact lt_i _ _|exact lt_b _ _|exact Lt.pt _ _ (by decide))
       ·repeat' (first|exact hw_nil|refine hw_cons (by decide) rfl bwk_rfl ?_ ?_|refine hw_cons (by decide) ?_ bwk_rfl ?_ ?_|exact trivial|refine blt_row ?_|exact lt_i _ _|exact Lt.ow _ _ (by decide)|refine lt_agg ?_|exact lt_nil|refine lt_cons ?_ ?_|refine Lt.sl _ ?_|refine lt_map (fun _=>?_))
        all_goals (show some (ABox.row _ _ _ _) = some (ABox.row _ _ _ _); rw [show (Fs.next hlt).i = i + 1 from rfl,← hst]; try rfl)
    ·have a1 : decide (32768 ≤ vdot ox oy nx ny) = false:=by simpa [wsA] using ha
     have hst : (L.map P6.v).set i (.agg [.i p.a,.i p.b,.i p.c,.i p.d,.i 0,.i 0]) = (mapTo (wsP old (wsA ox oy nx ny)) now (i + 1)).map P6.v:=by
      rw [← hset]
      unfold wsP
      rw [if_neg ha]
      exact map_set' P6.v L i ⟨p.a,p.b,p.c,p.d,0,0⟩
     repeat' (first|with_reducible (first|exact HBs.nil|refine HBs.cons (by decide) ?_ ?_|refine BOk.var ?_|exact BOk.nl|refine BOk.row ?_|exact Lts.nil|refine Lts.cons ?_ ?_|exact lt_i _ _|exact Lt.pt _ _ (by decide)|exact Lt.ow _ _ (by decide)|exact Lt.rp _ _ _ _ _ (by decide)|refine lt_agg ?_|exact lt_nil|refine lt_cons ?_ ?_|refine Lt.sl _ ?_|refine lt_map (fun _=>?_)|refine Lt.clo _ _ ?_|exact lt_p6 _ _)|simp only [go_sem,↓reduceIte,Nat.reduceLT,Nat.reduceEqDiff,Nat.reduceAdd,Nat.reduceLeDiff,Nat.reduceSub,reduceCtorEq,imp_self,Int.reduceNeg,decide_true,acond_tt,acond_ff,icast,inn,List.length_map,true_and,and_true,Bool.false_and,e1,e2,g1,g2,g5,g6,g7,List.length_set,List.length_map,a1]|refine cst_same (f:=143) (.i (wsK old p.d)) 20 hm Tryz.func143 rfl (by kernel_rfl) Tryz.ntmps143 Tryz.results143 rfl ?_ ?_ ?_ rfl rfl ?_ (by decide) ?_|(refine regOk_go ?_; kernel_rfl)|refine lt_set ?_ ?_|refine And.intro ?_ ?_)
     ·refine tr_lp hm [0,1,7] [0,1,2,3,4,5,6,7,8,9,10,11,12,13,14,15,16,17,18,19,20,21,22,23] (fun x : LS old.length (fun j=>!decide ((old.getD j P6.o).d = p.d))=>[(8,.i x.i)]) (fun x : LS old.length (fun j=>!decide ((old.getD j P6.o).d = p.d))=>[]) (fun x=>old.length - x.i) (LS.start _ _) ?_ ?_ ?_
      ·repeat' (first|exact tw_nil|refine tw_cons rfl ?_ ?_|exact lt_i _ _|exact Lt.pt _ _ (by decide)|refine lt_agg ?_|exact lt_nil|refine lt_cons ?_ ?_|refine Lt.sl _ ?_|refine lt_map (fun _=>?_)|refine Lt.clo _ _ ?_)
      ·repeat' (first|exact hw_nil|refine hw_cons (by decide) rfl bwk_rfl ?_ ?_|exact trivial|refine blt_row ?_|refine lt_set ?_ ?_|exact lt_i _ _|exact Lt.ow _ _ (by decide)|exact Lt.rp _ _ _ _ _ (by decide)|refine lt_agg ?_|exact lt_nil|refine lt_cons ?_ ?_|refine Lt.sl _ ?_|refine lt_map (fun _=>?_))
      ·rintro ⟨j,hj,hh⟩
       by_cases hlj : j < old.length
       ·have f1:=ilt hlj
        have f2:=isucc hlj (show old.length ≤ maxLen by omega)
        have f3:=p6_getD hlj
        repeat' (first|with_reducible (first|exact HBs.nil|refine HBs.cons (by decide) ?_ ?_|refine BOk.var ?_|exact BOk.nl|refine BOk.row ?_|exact Lts.nil|refine Lts.cons ?_ ?_|exact lt_i _ _|exact lt_b _ _|exact Lt.pt _ _ (by decide)|exact Lt.ow _ _ (by decide)|exact Lt.rp _ _ _ _ _ (by decide)|refine lt_agg ?_|exact lt_nil|refine lt_cons ?_ ?_|refine Lt.sl _ ?_|refine lt_map (fun _=>?_)|exact lt_p6 _ _)|simp only [go_sem,↓reduceIte,Nat.reduceLT,Nat.reduceEqDiff,Nat.reduceAdd,Nat.reduceLeDiff,Nat.reduceSub,reduceCtorEq,imp_self,Int.reduceNeg,decide_true,acond_tt,icast,inn,List.length_map,true_and,and_true,f1,f2,f3,g2,g7,List.length_set,List.length_map]|apply cst_in (f:=144) hm Tryz.func144 rfl (by kernel_rfl) Tryz.ntmps144 Tryz.results144 rfl|(refine regOk_go ?_; kernel_rfl)|refine acond_split (fun _=>?_) (fun _=>?_)|refine lt_set ?_ ?_|exact endJ_le rfl rfl|exact HSub.nil|refine HSub.cons rfl ?_|exact ⟨rfl,endJ_go rfl,rfl⟩|refine keys_go rfl|refine keep_go rfl|refine And.intro ?_ ?_)
        ·rename_i hc
         refine leaf_i ?_
         exact (fidx_hit hlj hh (by rw [hc]; rfl)).symm
        ·rename_i hc
         refine ⟨LS.next hlj hh (by rw [hc]; rfl),Nat.sub_lt_sub_left hlj (Nat.lt_succ_self _),wk_go (by decide) ?_ ?_⟩
         ·repeat' (first|exact tw_nil|refine tw_cons rfl ?_ ?_|exact lt_i _ _|exact Lt.pt _ _ (by decide)|refine lt_agg ?_|exact lt_nil|refine lt_cons ?_ ?_|refine Lt.sl _ ?_|refine lt_map (fun _=>?_)|refine Lt.clo _ _ ?_)
         ·repeat' (first|exact hw_nil|refine hw_cons (by decide) rfl bwk_rfl ?_ ?_|exact trivial|refine blt_row ?_|refine lt_set ?_ ?_|exact lt_i _ _|exact Lt.ow _ _ (by decide)|exact Lt.rp _ _ _ _ _ (by decide)|refine lt_agg ?_|exact lt_nil|refine lt_cons ?_ ?_|refine Lt.sl _ ?_|refine lt_map (fun _=>?_))
       ·have f1:=inlt hlj
        repeat' (first|simp only [go_sem,↓reduceIte,Nat.reduceLT,Nat.reduceEqDiff,Nat.reduceAdd,reduceCtorEq,Int.reduceNeg,decide_false,acond_ff,true_and,and_true,f1]|exact endJ_le rfl rfl|exact HSub.nil|refine HSub.cons rfl ?_|refine And.intro ?_ ?_)
        refine leaf_i ?_
        exact (fidx_none hlj (by omega) hh).symm
     ·refine ⟨Fs.next hlt,Nat.sub_lt_sub_left hlt (Nat.lt_succ_self _),wk_go (by decide) ?_ ?_⟩
      ·repeat' (first|exact tw_nil|refine tw_cons rfl ?_ ?_|exact lt_i _ _|exact lt_b _ _|exact Lt.pt _ _ (by decide))
      ·repeat' (first|exact hw_nil|refine hw_cons (by decide) rfl bwk_rfl ?_ ?_|refine hw_cons (by decide) ?_ bwk_rfl ?_ ?_|exact trivial|refine blt_row ?_|exact lt_i _ _|exact Lt.ow _ _ (by decide)|refine lt_agg ?_|exact lt_nil|refine lt_cons ?_ ?_|refine Lt.sl _ ?_|refine lt_map (fun _=>?_))
       all_goals (show some (ABox.row _ _ _ _) = some (ABox.row _ _ _ _); rw [show (Fs.next hlt).i = i + 1 from rfl,← hst]; try rfl)
   ·have f1:=inlt hlt
    have hii : i = now.length:=by omega
    subst hii
    rw [mapTo_all]
    repeat' (first|simp only [go_sem,↓reduceIte,Nat.reduceLT,Nat.reduceEqDiff,Nat.reduceAdd,Nat.reduceLeDiff,reduceCtorEq,imp_self,decide_false,acond_ff,and_true,f1])
    all_goals (try rfl)
end Go.Proofs.YtplmagdbnbijlaaGreat
/-
 What the functions of chapter 27 compute: lists of contacts,events,the reference. Conditions: none.
-/
namespace Go.Proofs.YtplmagdbnbijlaaGreat
open Go.RowKit Go.AL Go.Carom
theorem c_eqmn (x y : Int) (l : List P6) (x' y' : Int) (m : List P6) (h1 : l.length ≤ 1000000) : PCall Tryz.prog 96 [.agg [.i x,.i y,.sl (l.map P6.v)],.agg [.i x',.i y',.sl (m.map P6.v)]] (.b (eqMn x y l x' y' m)):=by
 refine pcall_of hm Tryz.func96 rfl (by kernel_rfl) (by rw [Tryz.ntmps96]; exact Nat.le_of_ble_eq_true rfl) (lt_cons (lt_agg (lt_cons (lt_i _ _) (lt_cons (lt_i _ _) (lt_cons (lt_p6s _ _) lt_nil)))) (lt_cons (lt_agg (lt_cons (lt_i _ _) (lt_cons (lt_i _ _) (lt_cons (lt_p6s _ _) lt_nil)))) lt_nil)) (lt_b _ _) ?_
 rw [Tryz.ntmps96,Tryz.results96]
 by_cases h0 : (x = x' ∧ y = y') ∧ l.length = m.length
 ·obtain ⟨⟨rfl,rfl⟩,hlm⟩:=h0
  have d1 : ((l.length : Int) = (m.length : Int)) = True:=eq_true (by omega)
  have hr : eqMn x y l x y m = (List.range l.length).all (p6E l m):=by simp [eqMn,eqP6,hlm]
  rw [hr]
  repeat' (first|simp only [go_sem,↓reduceIte,Nat.reduceLT,Nat.reduceEqDiff,Nat.reduceAdd,Nat.reduceLeDiff,reduceCtorEq,imp_self,decide_true,acond_ff,or_true,List.length_map,true_and,and_true,Bool.false_and,d1])
  refine tr_lp hm [2,3] [0,1] (fun x' : LS (l.length) (p6E l m)=>[(5,.i x'.i)]) (fun x' : LS (l.length) (p6E l m)=>[]) (fun x'=>l.length - x'.i) (LS.start _ _) ?_ ?_ ?_
  ·repeat' (first|exact tw_nil|refine tw_cons rfl ?_ ?_|exact lt_i _ _|exact Lt.pt _ _ (by decide))
  ·repeat' (first|exact hw_nil|refine hw_cons (by decide) rfl bwk_rfl ?_ ?_|exact lt_i _ _|refine lt_agg ?_|exact lt_nil|refine lt_cons ?_ ?_|refine Lt.sl _ ?_|refine lt_map (fun _=>?_))
  ·rintro ⟨i,hi,hh⟩
   by_cases hlt : i < l.length
   ·have e1:=ilt hlt
    have e2:=isucc hlt (show l.length ≤ maxLen by have : maxLen = 9223372036854775807:=rfl; omega)
    have e3:=p6_getD hlt
    have e4:=p6_getD (l:=m) (i:=i) (by omega)
    have e5:=ilt (i:=i) (n:=m.length) (by omega)
    repeat' (first|simp only [go_sem,↓reduceIte,Nat.reduceLT,Nat.reduceEqDiff,Nat.reduceAdd,Nat.reduceLeDiff,reduceCtorEq,imp_self,decide_true,acond_tt,or_true,icast,inn,List.length_map,true_and,and_true,e1,e2,e3,e4,e5]|(refine regOk_go ?_; kernel_rfl)|refine acond_split (fun _=>?_) (fun _=>?_)|refine And.intro ?_ ?_)
    all_goals (try omega)
    ·rename_i hc
     have h' : (!p6E l m i) = true:=hc
     exact leaf_b (LS.fail hlt (by simpa using h')).symm
    ·rename_i hc
     refine ⟨LS.next hlt hh (by have h' : (!p6E l m i) = false:=hc; simpa using h'),Nat.sub_lt_sub_left hlt (Nat.lt_succ_self _),wk_go (by decide) ?_ ?_⟩
     ·repeat' (first|exact tw_nil|refine tw_cons rfl ?_ ?_|exact lt_i _ _|exact Lt.pt _ _ (by decide))
     ·repeat' (first|exact hw_nil|refine hw_cons (by decide) rfl bwk_rfl ?_ ?_|exact lt_i _ _|refine lt_agg ?_|exact lt_nil|refine lt_cons ?_ ?_|refine Lt.sl _ ?_|refine lt_map (fun _=>?_))
   ·have f1:=inlt hlt
    have hd:=LS.done hlt hh
    repeat' (first|simp only [go_sem,↓reduceIte,Nat.reduceLT,Nat.reduceEqDiff,Nat.reduceAdd,Nat.reduceLeDiff,reduceCtorEq,imp_self,decide_false,acond_ff,List.length_map,true_and,and_true,f1])
    all_goals exact leaf_b hd.symm
 ·have hr : eqMn x y l x' y' m = false:=by
   rw [Bool.eq_false_iff]; intro h
   simp only [eqMn,eqP6,Bool.and_eq_true,decide_eq_true_eq] at h
   exact h0 ⟨h.1,h.2.1⟩
  rw [hr]
  by_cases hx : x = x'
  ·have d2 : (x = x') = True:=eq_true hx
   by_cases hy : y = y'
   ·have d3 : (y = y') = True:=eq_true hy
    have d1 : ((l.length : Int) = (m.length : Int)) = False:=eq_false (fun e=>h0 ⟨⟨hx,hy⟩,by omega⟩)
    repeat' (first|simp only [go_sem,↓reduceIte,Nat.reduceLT,Nat.reduceEqDiff,Nat.reduceAdd,Nat.reduceLeDiff,reduceCtorEq,imp_self,decide_true,decide_false,acond_tt,or_true,List.length_map,and_true,Bool.or_true,d1,d2,d3])
    all_goals rfl
   ·have d3 : (y = y') = False:=eq_false hy
    repeat' (first|simp only [go_sem,↓reduceIte,Nat.reduceLT,Nat.reduceEqDiff,Nat.reduceAdd,Nat.reduceLeDiff,reduceCtorEq,imp_self,decide_true,decide_false,acond_tt,or_true,List.length_map,and_true,Bool.true_or,Bool.false_and,Bool.and_false,d2,d3])
    all_goals rfl
  ·have d2 : (x = x') = False:=eq_false hx
   repeat' (first|simp only [go_sem,↓reduceIte,Nat.reduceLT,Nat.reduceEqDiff,Nat.reduceAdd,Nat.reduceLeDiff,reduceCtorEq,imp_self,decide_false,acond_tt,or_true,List.length_map,and_true,Bool.true_or,Bool.false_and,d2])
   all_goals rfl
theorem c_eqcs (l : List Ct) (hl : l.length ≤ 1000000) (hp : ∀ c ∈ l,c.ps.length ≤ 1000000) (m : List Ct) : PCall Tryz.prog 52 [.sl (l.map Ct.v),.sl (m.map Ct.v)] (.b (eqCs l m)):=by
 refine pcall_of hm Tryz.func52 rfl (by kernel_rfl) (by rw [Tryz.ntmps52]; exact Nat.le_of_ble_eq_true rfl) (lt_cons (lt_cts _ _) (lt_cons (lt_cts _ _) lt_nil)) (lt_b _ _) ?_
 rw [Tryz.ntmps52,Tryz.results52]
 by_cases hlm : l.length = m.length
 ·have d1 : ((l.length : Int) = (m.length : Int)) = True:=eq_true (by omega)
  have hr : eqCs l m = (List.range l.length).all (eqC l m):=by simp [eqCs,hlm]
  rw [hr]
  repeat' (first|simp only [go_sem,↓reduceIte,Nat.reduceLT,Nat.reduceEqDiff,Nat.reduceAdd,reduceCtorEq,decide_true,acond_ff,List.length_map,true_and,and_true,d1])
  refine tr_lp hm [0,1] [] (fun x' : LS (l.length) (eqC l m)=>[(5,.i x'.i)]) (fun x' : LS (l.length) (eqC l m)=>[]) (fun x'=>l.length - x'.i) (LS.start _ _) ?_ ?_ ?_
  ·repeat' (first|exact tw_nil|refine tw_cons rfl ?_ ?_|exact lt_i _ _|refine lt_agg ?_|exact lt_nil|refine lt_cons ?_ ?_|refine Lt.sl _ ?_|refine lt_map (fun _=>?_))
  ·repeat' (first|exact hw_nil)
  ·rintro ⟨i,hi,hh⟩
   by_cases hlt : i < l.length
   ·have e1:=ilt hlt
    have e2:=isucc hlt (show l.length ≤ maxLen by have : maxLen = 9223372036854775807:=rfl; omega)
    have e3:=ct_getD hlt
    have e4:=ct_getD (l:=m) (i:=i) (by omega)
    have e5:=ilt (i:=i) (n:=m.length) (by omega)
    have hq:=hp _ (getD_mem (d:=Ct.o) hlt)
    have hE : eqC l m i = eqC l m i:=rfl
    unfold eqC at hE
    have j1 : HasC Tryz.prog 96 [.agg [.i (l.getD i Ct.o).x,.i (l.getD i Ct.o).y,.sl ((l.getD i Ct.o).ps.map P6.v)],.agg [.i (m.getD i Ct.o).x,.i (m.getD i Ct.o).y,.sl ((m.getD i Ct.o).ps.map P6.v)]] (.b (eqMn (l.getD i Ct.o).x (l.getD i Ct.o).y (l.getD i Ct.o).ps (m.getD i Ct.o).x (m.getD i Ct.o).y (m.getD i Ct.o).ps)):=⟨c_eqmn _ _ _ _ _ _ hq⟩
    repeat' (first|simp only [go_sem,↓reduceIte,Nat.reduceLT,Nat.reduceEqDiff,Nat.reduceAdd,Nat.reduceLeDiff,reduceCtorEq,Bool.not_eq_true',imp_self,decide_true,acond_tt,or_true,icast,inn,List.length_map,true_and,and_true,e1,e2,e3,e4,e5]|refine gcst_go ?_|(refine regOk_go ?_; kernel_rfl)|refine acond_split (fun _=>?_) (fun _=>?_)|refine And.intro ?_ ?_)
    all_goals (try omega)
    ·rename_i hc
     have h' : (!(l.getD i Ct.o).keq (m.getD i Ct.o).key || !eqMn (l.getD i Ct.o).x (l.getD i Ct.o).y (l.getD i Ct.o).ps (m.getD i Ct.o).x (m.getD i Ct.o).y (m.getD i Ct.o).ps) = true:=hc
     exact leaf_b (LS.fail hlt (by unfold eqC; rw [← Bool.not_and] at h'; simpa only [Bool.not_eq_true'] using h')).symm
    ·rename_i hc
     refine ⟨LS.next hlt hh (by have h' : (!(l.getD i Ct.o).keq (m.getD i Ct.o).key || !eqMn (l.getD i Ct.o).x (l.getD i Ct.o).y (l.getD i Ct.o).ps (m.getD i Ct.o).x (m.getD i Ct.o).y (m.getD i Ct.o).ps) = false:=hc; unfold eqC; rw [← Bool.not_and] at h'; simpa only [Bool.not_eq_false'] using h'),Nat.sub_lt_sub_left hlt (Nat.lt_succ_self _),wk_go (by decide) ?_ ?_⟩
     ·repeat' (first|exact tw_nil|refine tw_cons rfl ?_ ?_|exact lt_i _ _|refine lt_agg ?_|exact lt_nil|refine lt_cons ?_ ?_|refine Lt.sl _ ?_|refine lt_map (fun _=>?_))
     ·repeat' (first|exact hw_nil)
   ·have f1:=inlt hlt
    have hd:=LS.done hlt hh
    repeat' (first|simp only [go_sem,↓reduceIte,Nat.reduceLT,Nat.reduceEqDiff,Nat.reduceAdd,reduceCtorEq,decide_false,acond_ff,List.length_map,true_and,and_true,f1])
    all_goals exact leaf_b hd.symm
 ·have d1 : ((l.length : Int) = (m.length : Int)) = False:=eq_false (by omega)
  have hr : eqCs l m = false:=by simp [eqCs,hlm]
  rw [hr]
  repeat' (first|simp only [go_sem,↓reduceIte,Nat.reduceLT,Nat.reduceEqDiff,Nat.reduceAdd,reduceCtorEq,decide_false,acond_tt,List.length_map,and_true,d1])
  all_goals rfl
theorem c_few (l : List Ct) (hl : l.length ≤ maxLen) : PCall Tryz.prog 92 [.sl (l.map Ct.v)] (.b (few27 l)):=by
 refine pcall_of hm Tryz.func92 rfl (by kernel_rfl) (by rw [Tryz.ntmps92]; exact Nat.le_of_ble_eq_true rfl) (lt_cons (lt_cts _ _) lt_nil) (lt_b _ _) ?_
 rw [Tryz.ntmps92,Tryz.results92]
 repeat' (first|simp only [go_sem,↓reduceIte,Nat.reduceLT,Nat.reduceAdd,true_and])
 refine tr_lp hm [0] [] (fun x' : LS (l.length) (fewI l)=>[(3,.i x'.i)]) (fun x' : LS (l.length) (fewI l)=>[]) (fun x'=>l.length - x'.i) (LS.start _ _) ?_ ?_ ?_
 ·repeat' (first|exact tw_nil|refine tw_cons rfl ?_ ?_|exact lt_i _ _|refine lt_agg ?_|exact lt_nil|refine lt_cons ?_ ?_|refine Lt.sl _ ?_|refine lt_map (fun _=>?_))
 ·repeat' (first|exact hw_nil)
 ·rintro ⟨i,hi,hh⟩
  by_cases hlt : i < l.length
  ·have e1:=ilt hlt
   have e2:=isucc hlt hl
   have e3:=ct_getD hlt
   repeat' (first|simp only [go_sem,↓reduceIte,Nat.reduceLT,Nat.reduceEqDiff,Nat.reduceAdd,Nat.reduceLeDiff,reduceCtorEq,imp_self,decide_true,acond_tt,icast,inn,List.length_map,true_and,and_true,e1,e2,e3]|refine acond_split (fun _=>?_) (fun _=>?_))
   all_goals (try omega)
   ·rename_i hc
    refine leaf_b ?_
    have : (List.range l.length).all (fewI l) = false:=LS.fail hlt (by unfold fewI; first|(rw [decide_eq_true (by have:=of_decide_eq_true hc; omega)]; rfl)|(rw [decide_eq_false (by have:=of_decide_eq_false hc; omega)]; rfl))
    simp [few27,this]
   ·rename_i hc
    refine ⟨LS.next hlt hh (by unfold fewI; first|(rw [decide_eq_true (by have:=of_decide_eq_true hc; omega)]; rfl)|(rw [decide_eq_false (by have:=of_decide_eq_false hc; omega)]; rfl)),Nat.sub_lt_sub_left hlt (Nat.lt_succ_self _),wk_go (by decide) ?_ ?_⟩
    ·repeat' (first|exact tw_nil|refine tw_cons rfl ?_ ?_|exact lt_i _ _|refine lt_agg ?_|exact lt_nil|refine lt_cons ?_ ?_|refine Lt.sl _ ?_|refine lt_map (fun _=>?_))
    ·repeat' (first|exact hw_nil)
  ·have f1:=inlt hlt
   have hd:=LS.done hlt hh
   repeat' (first|simp only [go_sem,↓reduceIte,Nat.reduceLT,Nat.reduceEqDiff,Nat.reduceAdd,reduceCtorEq,decide_false,acond_ff,List.length_map,true_and,and_true,f1])
   all_goals (refine leaf_b ?_; simp [few27,hd]; try omega)
theorem c_rfind (l : List Ct) (hl : l.length ≤ 1000000) (k : K4) : PCall Tryz.prog 101 [.sl (l.map Ct.v),.agg [.i k.a,.i k.fa,.i k.b,.i k.fb]] (.i (findK l k)):=by
 refine pcall_of hm Tryz.func101 rfl (by kernel_rfl) (by rw [Tryz.ntmps101]; exact Nat.le_of_ble_eq_true rfl) (lt_cons (lt_cts _ _) (lt_cons (lt_agg (lt_cons (lt_i _ _) (lt_cons (lt_i _ _) (lt_cons (lt_i _ _) (lt_cons (lt_i _ _) lt_nil))))) lt_nil)) (lt_i _ _) ?_
 rw [Tryz.ntmps101,Tryz.results101]
 repeat' (first|simp only [go_sem,↓reduceIte,Nat.reduceLT,Nat.reduceAdd,reduceCtorEq,Int.reduceNeg,true_and,and_true])
 refine tr_lp hm [0,3] [0] (fun x' : LS (l.length) (fun i=>!(l.getD i Ct.o).keq k)=>[(5,.i x'.i)]) (fun x' : LS (l.length) (fun i=>!(l.getD i Ct.o).keq k)=>[]) (fun x'=>l.length - x'.i) (LS.start _ _) ?_ ?_ ?_
 ·repeat' (first|exact tw_nil|refine tw_cons rfl ?_ ?_|exact lt_i _ _|exact Lt.pt _ _ (by decide)|refine lt_agg ?_|exact lt_nil|refine lt_cons ?_ ?_|refine Lt.sl _ ?_|refine lt_map (fun _=>?_))
 ·repeat' (first|exact hw_nil|refine hw_cons (by decide) rfl bwk_rfl ?_ ?_|exact lt_i _ _|refine lt_agg ?_|exact lt_nil|refine lt_cons ?_ ?_)
 ·rintro ⟨i,hi,hh⟩
  by_cases hlt : i < l.length
  ·have e1:=ilt hlt
   have e2:=isucc hlt (show l.length ≤ maxLen by have : maxLen = 9223372036854775807:=rfl; omega)
   have e3:=ct_getD hlt
   repeat' (first|simp only [go_sem,↓reduceIte,Nat.reduceLT,Nat.reduceEqDiff,Nat.reduceAdd,Nat.reduceLeDiff,reduceCtorEq,imp_self,Int.reduceNeg,decide_true,acond_tt,or_false,icast,inn,List.length_map,true_and,and_true,e1,e2,e3]|(refine regOk_go ?_; kernel_rfl)|refine acond_split (fun _=>?_) (fun _=>?_)|refine And.intro ?_ ?_)
   all_goals (try omega)
   ·rename_i hc
    refine leaf_i ?_
    exact (fidx_hit hlt hh (by have h' : (l.getD i Ct.o).keq k = _:=hc; rw [h']; rfl)).symm
   ·rename_i hc
    refine ⟨LS.next hlt hh (by have h' : (l.getD i Ct.o).keq k = _:=hc; rw [h']; rfl),Nat.sub_lt_sub_left hlt (Nat.lt_succ_self _),wk_go (by decide) ?_ ?_⟩
    ·repeat' (first|exact tw_nil|refine tw_cons rfl ?_ ?_|exact lt_i _ _|exact Lt.pt _ _ (by decide)|refine lt_agg ?_|exact lt_nil|refine lt_cons ?_ ?_|refine Lt.sl _ ?_|refine lt_map (fun _=>?_))
    ·repeat' (first|exact hw_nil|refine hw_cons (by decide) rfl bwk_rfl ?_ ?_|exact lt_i _ _|refine lt_agg ?_|exact lt_nil|refine lt_cons ?_ ?_)
  ·have f1:=inlt hlt
   repeat' (first|simp only [go_sem,↓reduceIte,Nat.reduceLT,Nat.reduceEqDiff,Nat.reduceAdd,reduceCtorEq,Int.reduceNeg,decide_false,acond_ff,List.length_map,true_and,and_true,f1])
   all_goals (refine leaf_i ?_; exact (fidx_none hlt (by omega) hh).symm)
theorem c_find (l : List Ct) (hl : l.length ≤ 1000000) (k : K4) : PCall Tryz.prog 56 [.sl (l.map Ct.v),.agg [.i k.a,.i k.fa,.i k.b,.i k.fb]] (.i (findK l k)):=by
 refine pcall_of hm Tryz.func56 rfl (by kernel_rfl) (by rw [Tryz.ntmps56]; exact Nat.le_of_ble_eq_true rfl) (lt_cons (lt_cts _ _) (lt_cons (lt_agg (lt_cons (lt_i _ _) (lt_cons (lt_i _ _) (lt_cons (lt_i _ _) (lt_cons (lt_i _ _) lt_nil))))) lt_nil)) (lt_i _ _) ?_
 rw [Tryz.ntmps56,Tryz.results56]
 repeat' (first|with_reducible (first|exact HBs.nil|refine HBs.cons (by decide) ?_ ?_|refine BOk.var ?_|exact Lts.nil|refine Lts.cons ?_ ?_|exact lt_i _ _|exact Lt.pt _ _ (by decide)|refine lt_agg ?_|exact lt_nil|refine lt_cons ?_ ?_|refine Lt.sl _ ?_|refine lt_map (fun _=>?_)|refine Lt.clo _ _ ?_|exact lt_ct _ _)|simp only [go_sem,↓reduceIte,Nat.reduceLT,Nat.reduceEqDiff,Nat.reduceAdd,Nat.reduceSub,reduceCtorEq,Int.reduceNeg,List.length_map,true_and,and_true]|refine cst_same (f:=108) (.i (findK l k)) 8 hm Tryz.func108 rfl (by kernel_rfl) Tryz.ntmps108 Tryz.results108 rfl ?_ ?_ ?_ rfl rfl ?_ (by decide) ?_)
 refine tr_lp hm [0,1,7] [0,1,2,3,4,5,6,7] (fun x' : LS (l.length) (fun i=>!(l.getD i Ct.o).keq k)=>[(8,.i x'.i)]) (fun x' : LS (l.length) (fun i=>!(l.getD i Ct.o).keq k)=>[]) (fun x'=>l.length - x'.i) (LS.start _ _) ?_ ?_ ?_
 ·repeat' (first|exact tw_nil|refine tw_cons rfl ?_ ?_|exact lt_i _ _|exact Lt.pt _ _ (by decide)|refine lt_agg ?_|exact lt_nil|refine lt_cons ?_ ?_|refine Lt.sl _ ?_|refine lt_map (fun _=>?_)|refine Lt.clo _ _ ?_)
 ·repeat' (first|exact hw_nil|refine hw_cons (by decide) rfl bwk_rfl ?_ ?_|exact lt_i _ _|refine lt_agg ?_|exact lt_nil|refine lt_cons ?_ ?_)
 ·rintro ⟨i,hi,hh⟩
  by_cases hlt : i < l.length
  ·have e1:=ilt hlt
   have e2:=isucc hlt (show l.length ≤ maxLen by have : maxLen = 9223372036854775807:=rfl; omega)
   have e3:=ct_getD hlt
   repeat' (first|with_reducible (first|exact HBs.nil|refine HBs.cons (by decide) ?_ ?_|refine BOk.var ?_|exact Lts.nil|refine Lts.cons ?_ ?_|exact lt_i _ _|exact lt_b _ _|exact Lt.pt _ _ (by decide)|refine lt_agg ?_|exact lt_nil|refine lt_cons ?_ ?_|refine Lt.sl _ ?_|refine lt_map (fun _=>?_)|exact lt_p6 _ _)|simp only [go_sem,↓reduceIte,Nat.reduceLT,Nat.reduceEqDiff,Nat.reduceAdd,Nat.reduceLeDiff,Nat.reduceSub,reduceCtorEq,imp_self,Int.reduceNeg,decide_true,acond_tt,or_false,icast,inn,List.length_map,true_and,and_true,e1,e2,e3]|apply cst_in (f:=109) hm Tryz.func109 rfl (by kernel_rfl) Tryz.ntmps109 Tryz.results109 rfl|refine acond_split (fun _=>?_) (fun _=>?_)|exact endJ_le rfl rfl|exact HSub.nil|refine HSub.cons rfl ?_|exact ⟨rfl,endJ_go rfl,rfl⟩|refine keys_go rfl|refine keep_go rfl|refine And.intro ?_ ?_)
   all_goals (try omega)
   ·rename_i hc
    refine leaf_i ?_
    exact (fidx_hit hlt hh (by have h' : (l.getD i Ct.o).keq k = _:=hc; rw [h']; rfl)).symm
   ·rename_i hc
    refine ⟨LS.next hlt hh (by have h' : (l.getD i Ct.o).keq k = _:=hc; rw [h']; rfl),Nat.sub_lt_sub_left hlt (Nat.lt_succ_self _),wk_go (by decide) ?_ ?_⟩
    ·repeat' (first|exact tw_nil|refine tw_cons rfl ?_ ?_|exact lt_i _ _|exact Lt.pt _ _ (by decide)|refine lt_agg ?_|exact lt_nil|refine lt_cons ?_ ?_|refine Lt.sl _ ?_|refine lt_map (fun _=>?_)|refine Lt.clo _ _ ?_)
    ·repeat' (first|exact hw_nil|refine hw_cons (by decide) rfl bwk_rfl ?_ ?_|exact lt_i _ _|refine lt_agg ?_|exact lt_nil|refine lt_cons ?_ ?_)
  ·have f1:=inlt hlt
   repeat' (first|simp only [go_sem,↓reduceIte,Nat.reduceLT,Nat.reduceEqDiff,Nat.reduceAdd,reduceCtorEq,Int.reduceNeg,decide_false,acond_ff,true_and,and_true,f1]|exact endJ_le rfl rfl|exact HSub.nil|refine HSub.cons rfl ?_|refine And.intro ?_ ?_)
   all_goals (refine leaf_i ?_; exact (fidx_none hlt (by omega) hh).symm)
end Go.Proofs.YtplmagdbnbijlaaGreat
/-
 What the functions of chapter 27 compute: events. Conditions: none.
-/
namespace Go.Proofs.YtplmagdbnbijlaaGreat
open Go.RowKit Go.AL Go.Carom
theorem c_evfor (l : List Ct) (hl : l.length ≤ 1000000) (m : List Ct) (hm' : m.length ≤ 1000000) (kd : Int) : PCall Tryz.prog 145 [.sl (l.map Ct.v),.sl (m.map Ct.v),.i kd] (.sl ((evF l m kd).map Evt.v)):=by
 refine pcall_of hm Tryz.func145 rfl (by kernel_rfl) (by rw [Tryz.ntmps145]; exact Nat.le_of_ble_eq_true rfl) (lt_cons (lt_cts _ _) (lt_cons (lt_cts _ _) (lt_cons (lt_i _ _) lt_nil))) (lt_evts _ _) ?_
 rw [Tryz.ntmps145,Tryz.results145]
 rw [← evI_all]
 repeat' (first|with_reducible (first|exact HBs.nil|refine HBs.cons (by decide) ?_ ?_|exact BOk.nl|exact BOk.ob|exact Lts.nil|refine Lts.cons ?_ ?_|exact Lt.mp _ (by decide)|refine Lt.sl _ ?_|refine lt_map (fun _=>?_)|exact lt_ct _ _)|simp only [go_sem,↓reduceIte,Nat.reduceLT,Nat.reduceEqDiff,Nat.reduceAdd,Nat.reduceSub,reduceCtorEq,List.length_map,true_and,and_true]|refine cst_wb (f:=97) (.mp 1) [(0,.nl),(1,.ob (mapOb true (ixT m m.length)))] 5 hm Tryz.func97 rfl (by kernel_rfl) Tryz.ntmps97 Tryz.results97 rfl ?_ ?_ ?_ ?_ ?_ rfl rfl (by decide) ?_|refine aext_makeMap ?_)
 ·refine tr_lp hm [3,9,10] [0] (fun x' : Fs (m.length)=>[(11,.i x'.i)]) (fun x' : Fs (m.length)=>[(1,.ob (mapOb true (ixT m x'.i)))]) (fun x'=>m.length - x'.i) (Fs.start _) ?_ ?_ ?_
  ·repeat' (first|exact tw_nil|refine tw_cons rfl ?_ ?_|exact lt_i _ _|exact Lt.mp _ (by decide)|refine lt_agg ?_|exact lt_nil|refine lt_cons ?_ ?_|refine Lt.sl _ ?_|refine lt_map (fun _=>?_))
  ·repeat' (first|exact hw_nil|refine hw_cons (by decide) rfl bwk_rfl ?_ ?_|exact trivial)
   all_goals first|rfl|skip
  ·rintro ⟨i,hi⟩
   by_cases hlt : i < m.length
   ·have e1:=ilt hlt
    have e2:=isucc hlt (show m.length ≤ maxLen by have : maxLen = 9223372036854775807:=rfl; omega)
    have e3:=ct_getD (l:=m) hlt
    repeat' (first|simp only [go_sem,↓reduceIte,Nat.reduceLT,Nat.reduceEqDiff,Nat.reduceAdd,Nat.reduceLeDiff,reduceCtorEq,imp_self,decide_true,acond_tt,icast,inn,List.length_map,true_and,and_true,e1,e2,e3]|refine aext_lookup (keyL (m.getD i Ct.o)) (ixT m i) rfl rfl rfl rfl rfl rfl (ixT_keys _ _) ?_|refine aext_mapUpdate (keyL (m.getD i Ct.o)) (ixT m i) rfl rfl rfl rfl rfl rfl rfl rfl (ixT_keys _ _) ?_|refine acond_split (fun _=>?_) (fun _=>?_))
    all_goals (try omega)
    ·rename_i hc
     have hF:=ixT_up (m:=m) (i:=i) (by simpa using hc)
     refine ⟨Fs.next hlt,Nat.sub_lt_sub_left hlt (Nat.lt_succ_self _),wk_go (by decide) ?_ ?_⟩
     all_goals (try simp only [show (Fs.next hlt).i = i + 1 from rfl,hF])
     ·repeat' (first|exact tw_nil|refine tw_cons rfl ?_ ?_|exact lt_i _ _|exact Lt.mp _ (by decide)|refine lt_agg ?_|exact lt_nil|refine lt_cons ?_ ?_|refine Lt.sl _ ?_|refine lt_map (fun _=>?_))
      all_goals (try rfl)
     ·repeat' (first|exact hw_nil|refine hw_cons (by decide) rfl bwk_rfl ?_ ?_|exact trivial)
      all_goals (try rfl)
    ·rename_i hc
     have hF:=ixT_dn (m:=m) (i:=i) (by simpa using hc)
     refine ⟨Fs.next hlt,Nat.sub_lt_sub_left hlt (Nat.lt_succ_self _),wk_go (by decide) ?_ ?_⟩
     all_goals (try simp only [show (Fs.next hlt).i = i + 1 from rfl,hF])
     ·repeat' (first|exact tw_nil|refine tw_cons rfl ?_ ?_|exact lt_i _ _|exact Lt.mp _ (by decide)|refine lt_agg ?_|exact lt_nil|refine lt_cons ?_ ?_|refine Lt.sl _ ?_|refine lt_map (fun _=>?_))
      all_goals (try rfl)
     ·repeat' (first|exact hw_nil|refine hw_cons (by decide) rfl bwk_rfl ?_ ?_|exact trivial)
      all_goals (try rfl)
   ·have f1:=inlt hlt
    have hii : i = m.length:=by omega
    subst hii
    repeat' (first|simp only [go_sem,↓reduceIte,Nat.reduceLT,Nat.reduceEqDiff,Nat.reduceAdd,decide_false,acond_ff,true_and,and_true,f1]|exact endJ_le rfl rfl|exact HSub.nil|refine HSub.cons rfl ?_|refine And.intro ?_ ?_)
    all_goals (try rfl)
 ·refine tr_lp hm [2,7,15,16] [0,1] (fun x' : Fs (l.length)=>[(8,.ow 5 (evI l m kd x'.i).length),(17,.i x'.i)]) (fun x' : Fs (l.length)=>[(5,.row 91 5 (evI l m kd x'.i).length ((evI l m kd x'.i).map Evt.v))]) (fun x'=>l.length - x'.i) (Fs.start _) ?_ ?_ ?_
  ·repeat' (first|exact tw_nil|refine tw_cons rfl ?_ ?_|exact lt_i _ _|exact Lt.mp _ (by decide)|exact Lt.ow _ _ (by decide)|refine lt_agg ?_|exact lt_nil|refine lt_cons ?_ ?_|refine Lt.sl _ ?_|refine lt_map (fun _=>?_))
  ·repeat' (first|exact hw_nil|refine hw_cons (by decide) rfl bwk_rfl ?_ ?_|refine hw_cons (by decide) rfl (.inr ⟨rfl,_,_,rfl⟩) ?_ ?_|exact trivial|refine blt_row ?_|exact lt_nil)
   all_goals first|rfl|skip
  ·rintro ⟨i,hi⟩
   by_cases hlt : i < l.length
   ·have e1:=ilt hlt
    have e2:=isucc hlt (show l.length ≤ maxLen by have : maxLen = 9223372036854775807:=rfl; omega)
    have e3:=ct_getD (l:=l) hlt
    have e4:=mhas_ixT m (l.getD i Ct.o)
    have hFl:=evI_len l m kd i
    repeat' (first|simp only [go_sem,↓reduceIte,Nat.reduceLT,Nat.reduceEqDiff,Nat.reduceAdd,Nat.reduceLeDiff,Nat.reduceMul,reduceCtorEq,imp_self,decide_true,acond_tt,List.range_zero,List.range_succ,List.replicate_succ,List.replicate_zero,List.flatten_cons,List.flatten_nil,List.all_cons,List.all_nil,forall_and,icast,inn,List.length_map,true_and,and_true,e1,e2,e3,e4,List.length_map]|refine aext_lookup (keyL (l.getD i Ct.o)) (ixT m m.length) rfl rfl rfl rfl rfl rfl (ixT_keys _ _) ?_|refine acond_split (fun _=>?_) (fun _=>?_)|refine And.intro ?_ ?_)
    all_goals (try omega)
    ·rename_i hc
     have hF:=evI_in (l:=l) (m:=m) (kd:=kd) hlt (by simpa using hc)
     refine ⟨Fs.next hlt,Nat.sub_lt_sub_left hlt (Nat.lt_succ_self _),wk_go (by decide) ?_ ?_⟩
     all_goals (try simp only [show (Fs.next hlt).i = i + 1 from rfl,hF,List.map_append,List.length_append])
     ·repeat' (first|exact tw_nil|refine tw_cons rfl ?_ ?_|exact lt_i _ _|exact Lt.mp _ (by decide)|exact Lt.ow _ _ (by decide)|refine lt_agg ?_|exact lt_nil|refine lt_cons ?_ ?_|refine Lt.sl _ ?_|refine lt_map (fun _=>?_))
      all_goals (try rfl)
     ·repeat' (first|exact hw_nil|refine hw_cons (by decide) rfl bwk_rfl ?_ ?_|exact trivial|refine blt_row ?_|exact lt_i _ _|refine lt_agg ?_|exact lt_nil|refine lt_cons ?_ ?_|refine lt_map (fun _=>?_)|refine lt_app ?_ ?_)
      all_goals (try rfl)
    ·rename_i hc
     have hF:=evI_out (l:=l) (m:=m) (kd:=kd) hlt (by simpa using hc)
     refine ⟨Fs.next hlt,Nat.sub_lt_sub_left hlt (Nat.lt_succ_self _),wk_go (by decide) ?_ ?_⟩
     all_goals (try simp only [show (Fs.next hlt).i = i + 1 from rfl,hF])
     ·repeat' (first|exact tw_nil|refine tw_cons rfl ?_ ?_|exact lt_i _ _|exact Lt.mp _ (by decide)|exact Lt.ow _ _ (by decide)|refine lt_agg ?_|exact lt_nil|refine lt_cons ?_ ?_|refine Lt.sl _ ?_|refine lt_map (fun _=>?_))
      all_goals (try rfl)
     ·repeat' (first|exact hw_nil|refine hw_cons (by decide) rfl bwk_rfl ?_ ?_|exact trivial|refine blt_row ?_|exact lt_i _ _|refine lt_agg ?_|exact lt_nil|refine lt_cons ?_ ?_|refine lt_map (fun _=>?_))
      all_goals (try rfl)
   ·have f1:=inlt hlt
    have hii : i = l.length:=by omega
    subst hii
    repeat' (first|simp only [go_sem,↓reduceIte,Nat.reduceLT,Nat.reduceEqDiff,Nat.reduceAdd,reduceCtorEq,decide_false,acond_ff,and_true,f1])
    all_goals (try rfl)
theorem c_evts (old : List Ct) (hl : old.length ≤ 1000000) (now : List Ct) (hm' : now.length ≤ 1000000) : PCall Tryz.prog 95 [.sl (old.map Ct.v),.sl (now.map Ct.v)] (.sl ((evF now old 1 ++ evF old now 2).map Evt.v)):=by
 refine pcall_of hm Tryz.func95 rfl (by kernel_rfl) (by rw [Tryz.ntmps95]; exact Nat.le_of_ble_eq_true rfl) (lt_cons (lt_cts _ _) (lt_cons (lt_cts _ _) lt_nil)) (lt_evts _ _) ?_
 rw [Tryz.ntmps95,Tryz.results95]
 have b1:=evI_len now old 1 now.length
 have b2:=evF_len old now 2
 rw [List.map_append,← evI_all now old 1]
 have j2 : HasC Tryz.prog 145 [.sl (old.map Ct.v),.sl (now.map Ct.v),.i 2] (.sl ((evF old now 2).map Evt.v)):=⟨c_evfor old hl now hm' 2⟩
 repeat' (first|with_reducible (first|exact HBs.nil|refine HBs.cons (by decide) ?_ ?_|exact BOk.nl|exact BOk.ob|refine BOk.row ?_|exact Lts.nil|refine Lts.cons ?_ ?_|exact lt_i _ _|exact Lt.mp _ (by decide)|exact Lt.ow _ _ (by decide)|refine Lt.sl _ ?_|refine lt_map (fun _=>?_)|exact lt_ct _ _|exact lt_evt _ _)|simp only [go_sem,↓reduceIte,Nat.reduceLT,Nat.reduceEqDiff,Nat.reduceAdd,Nat.reduceSub,reduceCtorEq,forall_and,List.length_map,true_and,and_true,List.length_map]|refine cst_go ?_|refine cst_wb (f:=145) (.ow 6 (evI now old 1 now.length).length) [(0,.nl),(6,.row 91 5 (evI now old 1 now.length).length ((evI now old 1 now.length).map Evt.v))] 10 hm Tryz.func145 rfl (by kernel_rfl) Tryz.ntmps145 Tryz.results145 rfl ?_ ?_ ?_ ?_ ?_ rfl rfl (by decide) ?_|refine cst_wb (f:=97) (.mp 2) [(0,.nl),(1,.nl),(2,.ob (mapOb true (ixT old old.length)))] 6 hm Tryz.func97 rfl (by kernel_rfl) Tryz.ntmps97 Tryz.results97 rfl ?_ ?_ ?_ ?_ ?_ rfl rfl (by decide) ?_|refine aext_makeMap ?_|refine And.intro ?_ ?_)
 all_goals (try omega)
 all_goals (try exact evts_len _)
 all_goals (try exact evts_one _)
 ·refine tr_lp hm [3,9,10] [0,1] (fun x' : Fs (old.length)=>[(11,.i x'.i)]) (fun x' : Fs (old.length)=>[(2,.ob (mapOb true (ixT old x'.i)))]) (fun x'=>old.length - x'.i) (Fs.start _) ?_ ?_ ?_
  ·repeat' (first|exact tw_nil|refine tw_cons rfl ?_ ?_|exact lt_i _ _|exact Lt.mp _ (by decide)|refine lt_agg ?_|exact lt_nil|refine lt_cons ?_ ?_|refine Lt.sl _ ?_|refine lt_map (fun _=>?_))
  ·repeat' (first|exact hw_nil|refine hw_cons (by decide) rfl bwk_rfl ?_ ?_|exact trivial)
   all_goals first|rfl|skip
  ·rintro ⟨i,hi⟩
   by_cases hlt : i < old.length
   ·have e1:=ilt hlt
    have e2:=isucc hlt (show old.length ≤ maxLen by have : maxLen = 9223372036854775807:=rfl; omega)
    have e3:=ct_getD (l:=old) hlt
    repeat' (first|simp only [go_sem,↓reduceIte,Nat.reduceLT,Nat.reduceEqDiff,Nat.reduceAdd,Nat.reduceLeDiff,reduceCtorEq,imp_self,decide_true,acond_tt,icast,inn,List.length_map,true_and,and_true,e1,e2,e3]|refine aext_lookup (keyL (old.getD i Ct.o)) (ixT old i) rfl rfl rfl rfl rfl rfl (ixT_keys _ _) ?_|refine aext_mapUpdate (keyL (old.getD i Ct.o)) (ixT old i) rfl rfl rfl rfl rfl rfl rfl rfl (ixT_keys _ _) ?_|refine acond_split (fun _=>?_) (fun _=>?_))
    all_goals (try omega)
    ·rename_i hc
     have hF:=ixT_up (m:=old) (i:=i) (by simpa using hc)
     refine ⟨Fs.next hlt,Nat.sub_lt_sub_left hlt (Nat.lt_succ_self _),wk_go (by decide) ?_ ?_⟩
     all_goals (try simp only [show (Fs.next hlt).i = i + 1 from rfl,hF])
     ·repeat' (first|exact tw_nil|refine tw_cons rfl ?_ ?_|exact lt_i _ _|exact Lt.mp _ (by decide)|refine lt_agg ?_|exact lt_nil|refine lt_cons ?_ ?_|refine Lt.sl _ ?_|refine lt_map (fun _=>?_))
      all_goals (try rfl)
     ·repeat' (first|exact hw_nil|refine hw_cons (by decide) rfl bwk_rfl ?_ ?_|exact trivial)
      all_goals (try rfl)
    ·rename_i hc
     have hF:=ixT_dn (m:=old) (i:=i) (by simpa using hc)
     refine ⟨Fs.next hlt,Nat.sub_lt_sub_left hlt (Nat.lt_succ_self _),wk_go (by decide) ?_ ?_⟩
     all_goals (try simp only [show (Fs.next hlt).i = i + 1 from rfl,hF])
     ·repeat' (first|exact tw_nil|refine tw_cons rfl ?_ ?_|exact lt_i _ _|exact Lt.mp _ (by decide)|refine lt_agg ?_|exact lt_nil|refine lt_cons ?_ ?_|refine Lt.sl _ ?_|refine lt_map (fun _=>?_))
      all_goals (try rfl)
     ·repeat' (first|exact hw_nil|refine hw_cons (by decide) rfl bwk_rfl ?_ ?_|exact trivial)
      all_goals (try rfl)
   ·have f1:=inlt hlt
    have hii : i = old.length:=by omega
    subst hii
    repeat' (first|simp only [go_sem,↓reduceIte,Nat.reduceLT,Nat.reduceEqDiff,Nat.reduceAdd,reduceCtorEq,decide_false,acond_ff,true_and,and_true,f1]|exact endJ_le rfl rfl|exact HSub.nil|refine HSub.cons rfl ?_|refine And.intro ?_ ?_)
    all_goals (try rfl)
 ·refine tr_lp hm [2,7,15,16] [0,1,2] (fun x' : Fs (now.length)=>[(8,.ow 6 (evI now old 1 x'.i).length),(17,.i x'.i)]) (fun x' : Fs (now.length)=>[(6,.row 91 5 (evI now old 1 x'.i).length ((evI now old 1 x'.i).map Evt.v))]) (fun x'=>now.length - x'.i) (Fs.start _) ?_ ?_ ?_
  ·repeat' (first|exact tw_nil|refine tw_cons rfl ?_ ?_|exact lt_i _ _|exact Lt.mp _ (by decide)|exact Lt.ow _ _ (by decide)|refine lt_agg ?_|exact lt_nil|refine lt_cons ?_ ?_|refine Lt.sl _ ?_|refine lt_map (fun _=>?_))
  ·repeat' (first|exact hw_nil|refine hw_cons (by decide) rfl bwk_rfl ?_ ?_|refine hw_cons (by decide) rfl (.inr ⟨rfl,_,_,rfl⟩) ?_ ?_|exact trivial|refine blt_row ?_|exact lt_nil)
   all_goals first|rfl|skip
  ·rintro ⟨i,hi⟩
   by_cases hlt : i < now.length
   ·have e1:=ilt hlt
    have e2:=isucc hlt (show now.length ≤ maxLen by have : maxLen = 9223372036854775807:=rfl; omega)
    have e3:=ct_getD (l:=now) hlt
    have e4:=mhas_ixT old (now.getD i Ct.o)
    have hFl:=evI_len now old 1 i
    repeat' (first|simp only [go_sem,↓reduceIte,Nat.reduceLT,Nat.reduceEqDiff,Nat.reduceAdd,Nat.reduceLeDiff,Nat.reduceMul,reduceCtorEq,imp_self,decide_true,acond_tt,List.range_zero,List.range_succ,List.replicate_succ,List.replicate_zero,List.flatten_cons,List.flatten_nil,List.all_cons,List.all_nil,forall_and,icast,inn,List.length_map,true_and,and_true,e1,e2,e3,e4,List.length_map]|refine aext_lookup (keyL (now.getD i Ct.o)) (ixT old old.length) rfl rfl rfl rfl rfl rfl (ixT_keys _ _) ?_|refine acond_split (fun _=>?_) (fun _=>?_)|refine And.intro ?_ ?_)
    all_goals (try omega)
    ·rename_i hc
     have hF:=evI_in (l:=now) (m:=old) (kd:=1) hlt (by simpa using hc)
     refine ⟨Fs.next hlt,Nat.sub_lt_sub_left hlt (Nat.lt_succ_self _),wk_go (by decide) ?_ ?_⟩
     all_goals (try simp only [show (Fs.next hlt).i = i + 1 from rfl,hF,List.map_append,List.length_append])
     ·repeat' (first|exact tw_nil|refine tw_cons rfl ?_ ?_|exact lt_i _ _|exact Lt.mp _ (by decide)|exact Lt.ow _ _ (by decide)|refine lt_agg ?_|exact lt_nil|refine lt_cons ?_ ?_|refine Lt.sl _ ?_|refine lt_map (fun _=>?_))
      all_goals (try rfl)
     ·repeat' (first|exact hw_nil|refine hw_cons (by decide) rfl bwk_rfl ?_ ?_|exact trivial|refine blt_row ?_|exact lt_i _ _|refine lt_agg ?_|exact lt_nil|refine lt_cons ?_ ?_|refine lt_map (fun _=>?_)|refine lt_app ?_ ?_)
      all_goals (try rfl)
    ·rename_i hc
     have hF:=evI_out (l:=now) (m:=old) (kd:=1) hlt (by simpa using hc)
     refine ⟨Fs.next hlt,Nat.sub_lt_sub_left hlt (Nat.lt_succ_self _),wk_go (by decide) ?_ ?_⟩
     all_goals (try simp only [show (Fs.next hlt).i = i + 1 from rfl,hF])
     ·repeat' (first|exact tw_nil|refine tw_cons rfl ?_ ?_|exact lt_i _ _|exact Lt.mp _ (by decide)|exact Lt.ow _ _ (by decide)|refine lt_agg ?_|exact lt_nil|refine lt_cons ?_ ?_|refine Lt.sl _ ?_|refine lt_map (fun _=>?_))
      all_goals (try rfl)
     ·repeat' (first|exact hw_nil|refine hw_cons (by decide) rfl bwk_rfl ?_ ?_|exact trivial|refine blt_row ?_|exact lt_i _ _|refine lt_agg ?_|exact lt_nil|refine lt_cons ?_ ?_|refine lt_map (fun _=>?_))
      all_goals (try rfl)
   ·have f1:=inlt hlt
    have hii : i = now.length:=by omega
    subst hii
    repeat' (first|simp only [go_sem,↓reduceIte,Nat.reduceLT,Nat.reduceEqDiff,Nat.reduceAdd,reduceCtorEq,decide_false,acond_ff,true_and,and_true,f1]|exact endJ_le rfl rfl|exact HSub.nil|refine HSub.cons rfl ?_|refine And.intro ?_ ?_)
    all_goals (try rfl)
end Go.Proofs.YtplmagdbnbijlaaGreat
/-
 Chapter 27: the reference's warm start,the laws of warm starting,events and lists. Conditions: none.
-/
namespace Go.Proofs.YtplmagdbnbijlaaGreat
open Go.RowKit Go.AL Go.Carom
theorem c_rws (ox oy : Int) (old : List P6) (h1 : old.length ≤ 1000000) (nx ny : Int) (now : List P6) (h2 : now.length ≤ 1000000) : PCall Tryz.prog 102 [.agg [.i ox,.i oy,.sl (old.map P6.v)],.agg [.i nx,.i ny,.sl (now.map P6.v)]] (.agg [.i nx,.i ny,.sl ((now.map (wsP old (wsA ox oy nx ny))).map P6.v)]):=by
  refine pcall_of hm Tryz.func102 rfl (by kernel_rfl) (by rw [Tryz.ntmps102]; exact Nat.le_of_ble_eq_true rfl) (lt_cons (lt_agg (lt_cons (lt_i _ _) (lt_cons (lt_i _ _) (lt_cons (lt_p6s _ _) lt_nil)))) (lt_cons (lt_agg (lt_cons (lt_i _ _) (lt_cons (lt_i _ _) (lt_cons (lt_p6s _ _) lt_nil)))) lt_nil)) (lt_agg (lt_cons (lt_i _ _) (lt_cons (lt_i _ _) (lt_cons (lt_p6s _ _) lt_nil)))) ?_
  rw [Tryz.ntmps102,Tryz.results102]
  have hm1 : maxLen = 9223372036854775807:=rfl
  repeat' (first|simp only [go_sem,↓reduceIte,Nat.reduceLT,Nat.reduceEqDiff,Nat.reduceAdd,Nat.reduceLeDiff,reduceCtorEq,imp_self,true_and,and_true]|refine cst_go ?_)
  refine tr_lp hm [2,3,4,5,6] [0,1,2,3] (fun x : Fs now.length=>[(7,.i x.i)]) (fun x : Fs now.length=>[(4,.row 150 6 x.i (((now.take x.i).map (wsP old (wsA ox oy nx ny))).map P6.v)),(6,.var (.agg [.i nx,.i ny,.ow 4 x.i]))]) (fun x=>now.length - x.i) (Fs.start _) ?_ ?_ ?_
  · repeat' (first|exact tw_nil|refine tw_cons rfl ?_ ?_|exact lt_i _ _|exact lt_b _ _|exact Lt.pt _ _ (by decide))
  · repeat' (first|exact hw_nil|refine hw_cons (by decide) rfl bwk_rfl ?_ ?_|refine hw_cons (by decide) rfl (.inr ⟨rfl,_,_,rfl⟩) ?_ ?_|exact trivial|refine blt_row ?_|exact lt_i _ _|exact Lt.ow _ _ (by decide)|refine lt_agg ?_|exact lt_nil|refine lt_cons ?_ ?_|refine Lt.sl _ ?_|refine lt_map (fun _=>?_))
    all_goals (try rfl)
  · rintro ⟨i,hi⟩
    by_cases hlt : i < now.length
    · have e1:=ilt hlt
      have e2:=isucc hlt (show now.length ≤ maxLen by omega)
      have e3:=p6_getD hlt
      have e4 : (now.take i).length = i:=by rw [List.length_take]; omega
      have hT:=take_succ_getD now P6.o hlt
      generalize now.getD i P6.o = p at *
      by_cases ha : wsA ox oy nx ny = true
      · have a1 : decide (32768 ≤ vdot ox oy nx ny) = true:=ha
        have hF : (now.take (i + 1)).map (wsP old (wsA ox oy nx ny)) = (now.take i).map (wsP old (wsA ox oy nx ny)) ++ [⟨p.a,p.b,p.c,p.d,(wsB old p.d (old.length - old.length)).1,(wsB old p.d (old.length - old.length)).2⟩]:=by
          rw [hT,List.map_append,Nat.sub_self]
          show _ ++ [wsP old (wsA ox oy nx ny) p] = _
          unfold wsP
          rw [if_pos ha]; rfl
        repeat' (first|simp only [go_sem,↓reduceIte,Nat.reduceLT,Nat.reduceEqDiff,Nat.reduceAdd,Nat.reduceLeDiff,reduceCtorEq,imp_self,decide_true,acond_tt,icast,inn,List.length_map,true_and,and_true,e1,e3,a1])
        refine tr_lp hm [2,3,4,5,6,7,8] [0,1,2,3,4,6] (fun x : Fs old.length=>[(9,.i (((old.length - x.i : Nat) : Int) - 1))]) (fun x : Fs old.length=>[(7,.var (.agg [.i p.a,.i p.b,.i p.c,.i p.d,.i (wsB old p.d (old.length - x.i)).1,.i (wsB old p.d (old.length - x.i)).2]))]) (fun x=>old.length - x.i) (Fs.start _) ?_ ?_ ?_
        · repeat' (first|exact tw_nil|refine tw_cons rfl ?_ ?_|refine tw_cons ?_ ?_ ?_|exact lt_i _ _|exact lt_b _ _|exact Lt.pt _ _ (by decide))
          all_goals exact leaf_i (by show IntKind.i64.wrap ((old.length : Int) - 1) = ((old.length - 0 : Nat) : Int) - 1; rw [w64_id (by omega) (by omega)]; omega)
        · repeat' (first|exact hw_nil|refine hw_cons (by decide) rfl bwk_rfl ?_ ?_|refine hw_cons (by decide) ?_ bwk_rfl ?_ ?_|exact trivial|refine blt_row ?_|exact lt_i _ _|exact Lt.ow _ _ (by decide)|refine lt_agg ?_|exact lt_nil|refine lt_cons ?_ ?_|refine Lt.sl _ ?_|refine lt_map (fun _=>?_))
          all_goals first
            | rfl
            | (show some (ABox.var _) = some (ABox.var _)
               rw [show (Fs.start old.length).i = 0 from rfl,show wsB old p.d (old.length - 0) = (0,0) by unfold wsB; rw [Nat.sub_zero,List.drop_length]; rfl])
            | skip
        · rintro ⟨j,hj⟩
          by_cases hlj : j < old.length
          · obtain ⟨k,hk⟩ : ∃ k,old.length - j = k + 1:=⟨old.length - (j + 1),by omega⟩
            have hk' : old.length - (j + 1) = k:=by omega
            have c1 : (((old.length - j : Nat) : Int) - 1) = (k : Int):=by omega
            have c2 : (0 ≤ (k : Int)) = True:=eq_true (by omega)
            have c3 : ((k : Int) < (old.length : Int)) = True:=eq_true (by omega)
            have c4:=p6_getD (l:=old) (i:=k) (by omega)
            have c5 : IntKind.i64.wrap ((k : Int) - 1) = (k : Int) - 1:=w64_id (by omega) (by omega)
            have hW : wsB old p.d k = if (old.getD k P6.o).d = p.d then ((old.getD k P6.o).e,(old.getD k P6.o).f) else wsB old p.d (k + 1):=wsR_drop (by omega)
            by_cases hd : (old.getD k P6.o).d = p.d
            · have c6 : ((old.getD k P6.o).d = p.d) = True:=eq_true hd
              rw [if_pos hd] at hW
              repeat' (first|simp only [go_sem,↓reduceIte,Nat.reduceLT,Nat.reduceEqDiff,Nat.reduceAdd,Nat.reduceLeDiff,reduceCtorEq,imp_self,decide_true,acond_tt,icast,List.length_map,true_and,and_true,c1,c2,c3,c4,c5,c6]|(refine regOk_go ?_; kernel_rfl)|refine And.intro ?_ ?_)
              refine ⟨Fs.next hlj,Nat.sub_lt_sub_left hlj (Nat.lt_succ_self _),wk_go (by decide) ?_ ?_⟩
              all_goals (try simp only [show (Fs.next hlj).i = j + 1 from rfl,hk',hW])
              · repeat' (first|exact tw_nil|refine tw_cons rfl ?_ ?_|exact lt_i _ _|exact lt_b _ _|exact Lt.pt _ _ (by decide))
              · repeat' (first|exact hw_nil|refine hw_cons (by decide) rfl bwk_rfl ?_ ?_|exact trivial|refine blt_row ?_|exact lt_i _ _|exact Lt.ow _ _ (by decide)|refine lt_agg ?_|exact lt_nil|refine lt_cons ?_ ?_|refine Lt.sl _ ?_|refine lt_map (fun _=>?_))
            · have c6 : ((old.getD k P6.o).d = p.d) = False:=eq_false hd
              rw [if_neg hd] at hW
              repeat' (first|simp only [go_sem,↓reduceIte,Nat.reduceLT,Nat.reduceEqDiff,Nat.reduceAdd,Nat.reduceLeDiff,reduceCtorEq,imp_self,decide_true,decide_false,acond_tt,acond_ff,icast,List.length_map,true_and,and_true,c1,c2,c3,c4,c5,c6]|(refine regOk_go ?_; kernel_rfl)|refine And.intro ?_ ?_)
              refine ⟨Fs.next hlj,Nat.sub_lt_sub_left hlj (Nat.lt_succ_self _),wk_go (by decide) ?_ ?_⟩
              all_goals (try simp only [show (Fs.next hlj).i = j + 1 from rfl,hk',hW,hk])
              · repeat' (first|exact tw_nil|refine tw_cons rfl ?_ ?_|exact lt_i _ _|exact lt_b _ _|exact Lt.pt _ _ (by decide))
              · repeat' (first|exact hw_nil|refine hw_cons (by decide) rfl bwk_rfl ?_ ?_|exact trivial|refine blt_row ?_|exact lt_i _ _|exact Lt.ow _ _ (by decide)|refine lt_agg ?_|exact lt_nil|refine lt_cons ?_ ?_|refine Lt.sl _ ?_|refine lt_map (fun _=>?_))
          · have hjj : j = old.length:=by omega
            subst hjj
            have c1 : (((old.length - old.length : Nat) : Int) - 1) = -1:=by omega
            repeat' (first|simp only [go_sem,↓reduceIte,Nat.reduceLT,Nat.reduceEqDiff,Nat.reduceAdd,Nat.reduceLeDiff,Nat.reduceMul,reduceCtorEq,imp_self,Int.reduceLE,Int.reduceNeg,decide_false,acond_ff,List.range_zero,List.range_succ,List.replicate_succ,List.replicate_zero,List.flatten_cons,List.flatten_nil,List.all_cons,List.all_nil,forall_and,List.length_map,true_and,and_true,Bool.false_and,c1,e2,e4,List.length_map]|refine And.intro ?_ ?_)
            all_goals (try omega)
            refine ⟨Fs.next hlt,Nat.sub_lt_sub_left hlt (Nat.lt_succ_self _),wk_go (by decide) ?_ ?_⟩
            all_goals (try simp only [show (Fs.next hlt).i = i + 1 from rfl,hF,List.map_append])
            · repeat' (first|exact tw_nil|refine tw_cons rfl ?_ ?_|exact lt_i _ _|exact lt_b _ _|exact Lt.pt _ _ (by decide))
              all_goals (try rfl)
            · repeat' (first|exact hw_nil|refine hw_cons (by decide) rfl bwk_rfl ?_ ?_|exact trivial|refine blt_row ?_|exact lt_i _ _|exact Lt.ow _ _ (by decide)|refine lt_agg ?_|exact lt_nil|refine lt_cons ?_ ?_|refine Lt.sl _ ?_|refine lt_map (fun _=>?_)|refine lt_app ?_ ?_)
              all_goals (try rfl)
      · have a1 : decide (32768 ≤ vdot ox oy nx ny) = false:=by simpa [wsA] using ha
        have hF : (now.take (i + 1)).map (wsP old (wsA ox oy nx ny)) = (now.take i).map (wsP old (wsA ox oy nx ny)) ++ [⟨p.a,p.b,p.c,p.d,0,0⟩]:=by
          rw [hT,List.map_append]
          show _ ++ [wsP old (wsA ox oy nx ny) p] = _
          unfold wsP
          rw [if_neg ha]
        repeat' (first|simp only [go_sem,↓reduceIte,Nat.reduceLT,Nat.reduceEqDiff,Nat.reduceAdd,Nat.reduceLeDiff,reduceCtorEq,imp_self,decide_true,acond_tt,icast,inn,List.length_map,true_and,and_true,e1,e3,a1])
        refine tr_rounds hm .z ?_
        repeat' (first|simp only [go_sem,↓reduceIte,Nat.reduceLT,Nat.reduceEqDiff,Nat.reduceAdd,Nat.reduceLeDiff,Nat.reduceMul,reduceCtorEq,imp_self,acond_ff,List.range_zero,List.range_succ,List.replicate_succ,List.replicate_zero,List.flatten_cons,List.flatten_nil,List.all_cons,List.all_nil,forall_and,List.length_map,true_and,and_true,Bool.and_false,e2,e4,List.length_map]|refine And.intro ?_ ?_)
        all_goals (try omega)
        refine ⟨Fs.next hlt,Nat.sub_lt_sub_left hlt (Nat.lt_succ_self _),wk_go (by decide) ?_ ?_⟩
        all_goals (try simp only [show (Fs.next hlt).i = i + 1 from rfl,hF,List.map_append])
        · repeat' (first|exact tw_nil|refine tw_cons rfl ?_ ?_|exact lt_i _ _|exact lt_b _ _|exact Lt.pt _ _ (by decide))
          all_goals (try rfl)
        · repeat' (first|exact hw_nil|refine hw_cons (by decide) rfl bwk_rfl ?_ ?_|exact trivial|refine blt_row ?_|exact lt_i _ _|exact Lt.ow _ _ (by decide)|refine lt_agg ?_|exact lt_nil|refine lt_cons ?_ ?_|refine Lt.sl _ ?_|refine lt_map (fun _=>?_)|refine lt_app ?_ ?_)
          all_goals (try rfl)
    · have f1:=inlt hlt
      have hii : i = now.length:=by omega
      subst hii
      rw [List.take_length]
      repeat' (first|simp only [go_sem,↓reduceIte,Nat.reduceLT,Nat.reduceEqDiff,Nat.reduceAdd,Nat.reduceLeDiff,reduceCtorEq,imp_self,decide_false,acond_ff,List.length_map,and_true,f1])
      all_goals (try rfl)
theorem c_mf27 (n : Int) : PCall Tryz.prog 94 [.i n] (.agg [.i 65536,.i 0,.sl [.agg [.i 0,.i 0,.i 0,.i 0,.i n,.i 0]]]):=by
 refine pcall_of hm Tryz.func94 rfl (by kernel_rfl) (by rw [Tryz.ntmps94]; exact Nat.le_of_ble_eq_true rfl) (lt_cons (lt_i _ _) lt_nil) (lt_agg (lt_cons (lt_i _ _) (lt_cons (lt_i _ _) (lt_cons (.sl _ (lt_cons (lt_agg (lt_cons (lt_i _ _) (lt_cons (lt_i _ _) (lt_cons (lt_i _ _) (lt_cons (lt_i _ _) (lt_cons (lt_i _ _) (lt_cons (lt_i _ _) lt_nil))))))) lt_nil)) lt_nil)))) ?_
 rw [Tryz.ntmps94,Tryz.results94]
 repeat' (first|simp only [go_sem,↓reduceIte,Nat.reduceLT,Nat.reduceEqDiff,Nat.reduceAdd,Nat.reduceLeDiff,Nat.reduceMul,reduceCtorEq,imp_self,List.range_zero,List.range_succ,List.replicate_succ,List.replicate_zero,List.flatten_cons,List.flatten_nil,List.all_cons,List.all_nil,and_true])
 all_goals (try rfl)
instance (n : Int) : HasC Tryz.prog 94 [.i n] (.agg [.i 65536,.i 0,.sl [.agg [.i 0,.i 0,.i 0,.i 0,.i n,.i 0]]]):=⟨c_mf27 n⟩
theorem c_ex27  : PCall Tryz.prog 51 [] (.b true):=by
 refine pcall_of hm Tryz.func51 rfl (by kernel_rfl) (by rw [Tryz.ntmps51]; exact Nat.le_of_ble_eq_true rfl) lt_nil (lt_b _ _) ?_
 rw [Tryz.ntmps51,Tryz.results51]
 have i1 : HasC Tryz.prog 93 [.agg [.i 65536,.i 0,.sl [.agg [.i 0,.i 0,.i 0,.i 0,.i 5,.i 0]]],.agg [.i 65536,.i 0,.sl [.agg [.i 0,.i 0,.i 0,.i 0,.i 0,.i 0]]]] (.agg [.i 65536,.i 0,.sl [.agg [.i 0,.i 0,.i 0,.i 0,.i 5,.i 0]]]):=⟨by have h:=c_ws 65536 0 [(⟨0,0,0,0,5,0⟩ : P6)] (by decide) 65536 0 [(⟨0,0,0,0,0,0⟩ : P6)] (by decide); exact h⟩
 have i2 : PCall Tryz.prog 95 [.sl [],.sl [.agg [.i 1,.i 0,.i 2,.i 0,.i 0,.i 0,.sl []]]] (.sl [.agg [.i 1,.i 1,.i 0,.i 2,.i 0]]):=by have h:=c_evts [] (by decide) [⟨1,0,2,0,0,0,[]⟩] (by decide); exact h
 have i3 : HasC Tryz.prog 56 [.sl [],.agg [.i 0,.i 0,.i 0,.i 0]] (.i (-1)):=⟨by have h:=c_find [] (by decide) ⟨0,0,0,0⟩; exact h⟩
 repeat' (first|simp only [go_sem,↓reduceIte,Nat.reduceLT,Nat.reduceEqDiff,Nat.reduceAdd,Nat.reduceLeDiff,Nat.reduceMul,reduceCtorEq,imp_self,Int.reduceLT,Int.reduceLE,Int.reduceNeg,decide_true,or_false,Int.reduceToNat,List.range_zero,List.range_succ,List.replicate_succ,List.replicate_zero,List.flatten_cons,List.flatten_nil,List.all_cons,List.all_nil,true_and,and_true,nc1]|refine cst_go ?_|refine gcst_go ?_|exact NRs.nil|refine NRs.cons ?_ ?_|exact NR.refl _|exact NR.nl rfl|refine NR.aggs ?_|refine NR.sls ?_|refine cst_nl i2 ?_ ?_)
 all_goals (try rfl)
 all_goals (try (show (_ : Bool) = true; simp_all; done))
 all_goals (try rfl)
end Go.Proofs.YtplmagdbnbijlaaGreat
