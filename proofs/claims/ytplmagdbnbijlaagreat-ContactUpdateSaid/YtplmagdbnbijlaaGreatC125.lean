/-
  Chapter 27: Update by the reference. Conditions: none.
-/
import Derived.Test.YtplmagdbnbijlaaGreatC124
import Derived.Outline
set_option maxHeartbeats 4000000
set_option maxRecDepth 20000
set_option linter.all false
namespace Go.Proofs.YtplmagdbnbijlaaGreat
open Go.RowKit Go.AL Go.Carom
theorem c_rupd (w : Wd) (hs : WU w) : PCall Tryz.prog 54 [.agg [.i w.ts,.i w.gx,.i w.gy,.i w.it,.i w.ss,.sl (w.bs.map Bd.v),.sl (w.js.map Jt.v),.sl (w.cs.map Ct.v),.sl (w.ov.map K4.v),.i w.nid,.i w.fr]] (.sl ((upd w).map Ct.v)):=by
 refine pcall_of hm Tryz.func54 rfl (by kernel_rfl) (by rw [Tryz.ntmps54]; exact Nat.le_of_ble_eq_true rfl) (lt_cons (lt_agg (lt_cons (lt_i _ _) (lt_cons (lt_i _ _) (lt_cons (lt_i _ _) (lt_cons (lt_i _ _) (lt_cons (lt_i _ _) (lt_cons (lt_bds _ _) (lt_cons (lt_jts _ _) (lt_cons (lt_cts _ _) (lt_cons (lt_k4s _ _) (lt_cons (lt_i _ _) (lt_cons (lt_i _ _) lt_nil)))))))))))) lt_nil) (lt_cts _ _) ?_
 rw [Tryz.ntmps54,Tryz.results54]
 have m0 : maxLen = 9223372036854775807:=rfl
 have hwh:=hs.h
 have hwf:=hs.f
 have hb : w.bs.length ≤ maxLen:=by have:=hwf.b; omega
 have hj:=hwh.j
 have hcl:=hwh.c
 have hPl:=fpR_len hwf w.js
 have hkh:=fun k (h : k ∈ fpR w.bs w.js)=>key_has h
 have i1 : HasC Tryz.prog 38 [.agg [.i w.ts,.i w.gx,.i w.gy,.i w.it,.i w.ss,.sl (w.bs.map Bd.v),.sl (w.js.map Jt.v),.sl (w.cs.map Ct.v),.sl (w.ov.map K4.v),.i w.nid,.i w.fr]] (.i (wval w)):=⟨c_rwval w hwh⟩
 by_cases hv : wval w = 0
 ·have hv' : (wval w = 0) = True:=eq_true hv
  have hr : upd w = updL w.bs w.cs (fpR w.bs w.js):=if_pos hv
  rw [hr,← updI_all]
  have k1 : HasC Tryz.prog 20 [.sl (w.bs.map Bd.v),.sl (w.js.map Jt.v)] (.sl ((fpR w.bs w.js).map K4.v)):=⟨c_rfp w.bs w.js hwf (by omega)⟩
  generalize fpR w.bs w.js = P at *
  repeat' (first|simp only [go_sem,↓reduceIte,Nat.reduceLT,Nat.reduceEqDiff,Nat.reduceAdd,Nat.reduceLeDiff,reduceCtorEq,hv']|refine cst_go ?_)
  refine tr_lp hm [1,4] [0] (fun x' : Fs P.length=>[(3,.ow 2 (updI w.bs w.cs P x'.i).length),(5,.i x'.i)]) (fun x' : Fs P.length=>[(2,.row 102 7 (updI w.bs w.cs P x'.i).length ((updI w.bs w.cs P x'.i).map Ct.v))]) (fun x'=>P.length - x'.i) (Fs.start _) ?_ ?_ ?_
  ·repeat' (first|exact tw_nil|refine tw_cons rfl ?_ ?_|exact lt_i _ _|exact Lt.pt _ _ (by decide)|exact lt_k4s _ _|exact Lt.ow _ _ (by decide))
   all_goals (try rfl)
  ·repeat' (first|exact hw_nil|refine hw_cons (by decide) rfl bwk_rfl ?_ ?_|refine hw_cons (by decide) rfl (.inr ⟨rfl,_,_,rfl⟩) ?_ ?_|refine blt_row ?_|exact lt_i _ _|exact lt_bds _ _|exact lt_jts _ _|exact lt_k4s _ _|exact lt_cts _ _|refine lt_agg ?_|exact lt_nil|refine lt_cons ?_ ?_)
   all_goals (try rfl)
  ·rintro ⟨i,hi⟩
   by_cases hlt : i < P.length
   ·have e1:=ilt hlt
    have e2:=isucc hlt (show P.length ≤ maxLen by omega)
    have e3:=k4_getD hlt
    have hkm:=getD_mem (d:=K4.o) hlt
    have hin:=fun h=>updI_in (bs:=w.bs) (cs:=w.cs) hlt h
    have hout:=fun h=>updI_out (bs:=w.bs) (cs:=w.cs) hlt h
    have hUl:=updI_len w.bs w.cs P i
    obtain ⟨h1,h2⟩:=hkh _ hkm
    obtain ⟨x1,x2⟩:=hasFx_mem h1
    obtain ⟨y1,y2⟩:=hasFx_mem h2
    have v1:=(hwf.f _ x1).2 _ x2
    have v2:=(hwf.f _ y1).2 _ y2
    generalize P.getD i K4.o = k at *
    have hn2:=mn_n2 w.bs k
    have hMK : mnK w.bs k = (mnZ (bdZ w.bs k.a) (fxZ w.bs k.a k.fa) (bdZ w.bs k.b) (fxZ w.bs k.b k.fb)):=rfl
    have hse : senK w.bs k = ((fxZ w.bs k.a k.fa).sen || (fxZ w.bs k.b k.fb).sen):=rfl
    have haC : acC w.bs k = (!senK w.bs k && (mnK w.bs k).ok):=rfl
    have hnC : newC w.bs w.cs k = ⟨k.a,k.fa,k.b,k.fb,(mnK w.bs k).x,(mnK w.bs k).y,wsC (oldC w.cs k) (mnK w.bs k)⟩:=rfl
    have j1 : HasC Tryz.prog 99 [.agg [.i w.ts,.i w.gx,.i w.gy,.i w.it,.i w.ss,.sl (w.bs.map Bd.v),.sl (w.js.map Jt.v),.sl (w.cs.map Ct.v),.sl (w.ov.map K4.v),.i w.nid,.i w.fr],.agg [.i k.a,.i k.fa,.i k.b,.i k.fb]] (.tup [.agg [.i (fxZ w.bs k.a k.fa).k,.i (fxZ w.bs k.a k.fa).r,.sl ((fxZ w.bs k.a k.fa).vs.map ev),.i (fxZ w.bs k.a k.fa).den,.i (fxZ w.bs k.a k.fa).fri,.i (fxZ w.bs k.a k.fa).res,.b (fxZ w.bs k.a k.fa).sen,.i (fxZ w.bs k.a k.fa).cat,.i (fxZ w.bs k.a k.fa).msk,.i (fxZ w.bs k.a k.fa).grp],.agg [.i (fxZ w.bs k.b k.fb).k,.i (fxZ w.bs k.b k.fb).r,.sl ((fxZ w.bs k.b k.fb).vs.map ev),.i (fxZ w.bs k.b k.fb).den,.i (fxZ w.bs k.b k.fb).fri,.i (fxZ w.bs k.b k.fb).res,.b (fxZ w.bs k.b k.fb).sen,.i (fxZ w.bs k.b k.fb).cat,.i (fxZ w.bs k.b k.fb).msk,.i (fxZ w.bs k.b k.fb).grp],.b true]):=⟨c_rfx1 w hb k h1 h2⟩
    obtain ⟨⟨b1,b2,b3⟩,b4⟩:=fb_at h1.1
    obtain ⟨⟨d1,d2,d3⟩,d4⟩:=fb_at h2.1
    have j2 : HasC Tryz.prog 40 [.agg [.i w.ts,.i w.gx,.i w.gy,.i w.it,.i w.ss,.sl (w.bs.map Bd.v),.sl (w.js.map Jt.v),.sl (w.cs.map Ct.v),.sl (w.ov.map K4.v),.i w.nid,.i w.fr],.i k.a] (.i (fbK w.bs k.a)):=⟨c_rfb w hb k.a⟩
    have j3 : HasC Tryz.prog 40 [.agg [.i w.ts,.i w.gx,.i w.gy,.i w.it,.i w.ss,.sl (w.bs.map Bd.v),.sl (w.js.map Jt.v),.sl (w.cs.map Ct.v),.sl (w.ov.map K4.v),.i w.nid,.i w.fr],.i k.b] (.i (fbK w.bs k.b)):=⟨c_rfb w hb k.b⟩
    have j5 : HasC Tryz.prog 101 [.sl (w.cs.map Ct.v),.agg [.i k.a,.i k.fa,.i k.b,.i k.fb]] (.i (findK w.cs k)):=⟨c_rfind w.cs (by omega) k⟩
    have hc6:=cpts_p6 (mnZ (bdZ w.bs k.a) (fxZ w.bs k.a k.fa) (bdZ w.bs k.b) (fxZ w.bs k.b k.fb)).ps
    have k4:=c_rcoll (fxZ w.bs k.a k.fa).k (fxZ w.bs k.a k.fa).r (fxZ w.bs k.a k.fa).vs (by omega) (bdZ w.bs k.a).px (bdZ w.bs k.a).py (bdZ w.bs k.a).an (fxZ w.bs k.b k.fb).k (fxZ w.bs k.b k.fb).r (fxZ w.bs k.b k.fb).vs (by omega) (bdZ w.bs k.b).px (bdZ w.bs k.b).py (bdZ w.bs k.b).an
    have j4 : HasC Tryz.prog 100 [.agg [.i (fxZ w.bs k.a k.fa).k,.i (fxZ w.bs k.a k.fa).r,.sl ((fxZ w.bs k.a k.fa).vs.map ev)],.agg [.i (bdZ w.bs k.a).px,.i (bdZ w.bs k.a).py,.i (bdZ w.bs k.a).an],.agg [.i (fxZ w.bs k.b k.fb).k,.i (fxZ w.bs k.b k.fb).r,.sl ((fxZ w.bs k.b k.fb).vs.map ev)],.agg [.i (bdZ w.bs k.b).px,.i (bdZ w.bs k.b).py,.i (bdZ w.bs k.b).an]] (.tup [.agg [.i (mnZ (bdZ w.bs k.a) (fxZ w.bs k.a k.fa) (bdZ w.bs k.b) (fxZ w.bs k.b k.fb)).x,.i (mnZ (bdZ w.bs k.a) (fxZ w.bs k.a k.fa) (bdZ w.bs k.b) (fxZ w.bs k.b k.fb)).y,.sl (((mnZ (bdZ w.bs k.a) (fxZ w.bs k.a k.fa) (bdZ w.bs k.b) (fxZ w.bs k.b k.fb)).ps.map CPt.p6).map P6.v)],.b (mnZ (bdZ w.bs k.a) (fxZ w.bs k.a k.fa) (bdZ w.bs k.b) (fxZ w.bs k.b k.fb)).ok]):=⟨by rw [← hc6]; exact k4⟩
    clear k4 hc6
    rw [hMK] at hn2
    generalize (mnZ (bdZ w.bs k.a) (fxZ w.bs k.a k.fa) (bdZ w.bs k.b) (fxZ w.bs k.b k.fb)) = M at *
    cases z1 : senK w.bs k with
    | true=>
     have hF:=hout (by rw [haC,z1]; rfl)
     rw [z1] at hse
     have hs1:=hse.symm
     have hs2 : (!(fxZ w.bs k.a k.fa).sen && !(fxZ w.bs k.b k.fb).sen) = false:=by rw [← Bool.not_or,hs1]; rfl
     clear haC hnC hin hout
     generalize (fxZ w.bs k.a k.fa) = f at *
     generalize (fxZ w.bs k.b k.fb) = f' at *
     generalize (bdZ w.bs k.a) = B at *
     generalize (bdZ w.bs k.b) = B' at *
     repeat' (first|simp only [go_sem,↓reduceIte,Nat.reduceLT,Nat.reduceEqDiff,Nat.reduceAdd,Nat.reduceLeDiff,reduceCtorEq,e1,e2,e3,hs1]|refine cst_go ?_)
     all_goals (try omega)
     all_goals (try exact cts_len _)
     all_goals (try exact cts_one _)
     all_goals (try (rename_i h1 h2; rw [h1,h2]; rfl))
     all_goals (try (rename_i h1; rw [h1]; rfl))
     refine ⟨Fs.next hlt,Nat.sub_lt_sub_left hlt (Nat.lt_succ_self _),wk_go (by decide) ?_ ?_⟩
     all_goals (try simp only [show (Fs.next hlt).i = i + 1 from rfl,hF])
     ·repeat' (first|exact tw_nil|refine tw_cons rfl ?_ ?_|exact lt_i _ _|exact Lt.pt _ _ (by decide)|exact lt_k4s _ _|exact Lt.ow _ _ (by decide))
      all_goals (try rfl)
     ·repeat' (first|exact hw_nil|refine hw_cons (by decide) rfl bwk_rfl ?_ ?_|refine blt_row ?_|exact lt_i _ _|exact lt_bds _ _|exact lt_jts _ _|exact lt_k4s _ _|exact lt_cts _ _|exact lt_p6s _ _|refine lt_agg ?_|exact lt_nil|refine lt_cons ?_ ?_|refine lt_map (fun _=>?_))
      all_goals (try rfl)
    | false=>
     rw [z1] at hse
     have hs1:=hse.symm
     have hs2 : (!(fxZ w.bs k.a k.fa).sen && !(fxZ w.bs k.b k.fb).sen) = true:=by rw [← Bool.not_or,hs1]; rfl
     cases z2 : M.ok with
     | false=>
      have hF:=hout (by rw [haC,z1,hMK,z2]; rfl)
      rw [z2] at j4
      clear haC hnC hin hout
      generalize (fxZ w.bs k.a k.fa) = f at *
      generalize (fxZ w.bs k.b k.fb) = f' at *
      generalize (bdZ w.bs k.a) = B at *
      generalize (bdZ w.bs k.b) = B' at *
      repeat' (first|simp only [go_sem,↓reduceIte,Nat.reduceLT,Nat.reduceEqDiff,Nat.reduceAdd,Nat.reduceLeDiff,reduceCtorEq,e1,e2,e3,hs1,b2,b3,b4,d2,d3,d4]|refine cst_go ?_|(refine regOk_go ?_; kernel_rfl)|refine And.intro ?_ ?_)
      all_goals (try omega)
      all_goals (try exact cts_len _)
      all_goals (try exact cts_one _)
      all_goals (try (rename_i h1 h2; rw [h1,h2]; rfl))
      all_goals (try (rename_i h1; rw [h1]; rfl))
      refine ⟨Fs.next hlt,Nat.sub_lt_sub_left hlt (Nat.lt_succ_self _),wk_go (by decide) ?_ ?_⟩
      all_goals (try simp only [show (Fs.next hlt).i = i + 1 from rfl,hF])
      ·repeat' (first|exact tw_nil|refine tw_cons rfl ?_ ?_|exact lt_i _ _|exact Lt.pt _ _ (by decide)|exact lt_k4s _ _|exact Lt.ow _ _ (by decide))
       all_goals (try rfl)
      ·repeat' (first|exact hw_nil|refine hw_cons (by decide) rfl bwk_rfl ?_ ?_|refine blt_row ?_|exact lt_i _ _|exact lt_bds _ _|exact lt_jts _ _|exact lt_k4s _ _|exact lt_cts _ _|exact lt_p6s _ _|refine lt_agg ?_|exact lt_nil|refine lt_cons ?_ ?_|refine lt_map (fun _=>?_))
       all_goals (try rfl)
     | true=>
      have hF:=hin (by rw [haC,z1,hMK,z2]; rfl)
      rw [hnC,hMK] at hF
      rw [z2] at j4
      clear haC hnC hin hout
      by_cases hk0 : 0 ≤ findK w.cs k
      ·obtain ⟨hk1,_⟩:=findK_at hk0
       have hoc : oldC w.cs k = w.cs.getD (findK w.cs k).toNat Ct.o:=if_pos hk0
       rw [hoc] at hF
       have hom:=getD_mem (d:=Ct.o) (show (findK w.cs k).toNat < w.cs.length by omega)
       have hop:=hwh.p _ hom
       have c1 : (0 ≤ findK w.cs k) = True:=eq_true hk0
       have c2 : (findK w.cs k < (w.cs.length : Int)) = True:=eq_true hk1
       have c3:=ct_getD (l:=w.cs) (i:=(findK w.cs k).toNat) (by omega)
       have c4 : decide (0 ≤ findK w.cs k) = true:=decide_eq_true hk0
       generalize w.cs.getD (findK w.cs k).toNat Ct.o = q at *
       have j7 : HasC Tryz.prog 102 [.agg [.i q.x,.i q.y,.sl (q.ps.map P6.v)],.agg [.i M.x,.i M.y,.sl ((M.ps.map CPt.p6).map P6.v)]] (.agg [.i M.x,.i M.y,.sl ((wsC q M).map P6.v)]):=⟨c_rws q.x q.y q.ps (by omega) M.x M.y (M.ps.map CPt.p6) (by rw [List.length_map]; omega)⟩
       generalize findK w.cs k = fk at *
       generalize (fxZ w.bs k.a k.fa) = f at *
       generalize (fxZ w.bs k.b k.fb) = f' at *
       generalize (bdZ w.bs k.a) = B at *
       generalize (bdZ w.bs k.b) = B' at *
       repeat' (first|simp only [go_sem,↓reduceIte,Nat.reduceLT,Nat.reduceEqDiff,Nat.reduceAdd,Nat.reduceLeDiff,Nat.reduceMul,reduceCtorEq,e1,e2,e3,hs1,c1,c2,c3,b2,b3,b4,d2,d3,d4]|refine cst_go ?_|(refine regOk_go ?_; kernel_rfl)|refine And.intro ?_ ?_)
       all_goals (try omega)
       all_goals (try exact cts_len _)
       all_goals (try exact cts_one _)
       all_goals (try (rename_i h1 h2; rw [h1,h2]; rfl))
       all_goals (try (rename_i h1; rw [h1]; rfl))
       refine ⟨Fs.next hlt,Nat.sub_lt_sub_left hlt (Nat.lt_succ_self _),wk_go (by decide) ?_ ?_⟩
       all_goals (try simp only [show (Fs.next hlt).i = i + 1 from rfl,hF,List.length_append,List.map_append])
       ·repeat' (first|exact tw_nil|refine tw_cons rfl ?_ ?_|exact lt_i _ _|exact Lt.pt _ _ (by decide)|exact lt_k4s _ _|exact Lt.ow _ _ (by decide))
        all_goals (try rfl)
       ·repeat' (first|exact hw_nil|refine hw_cons (by decide) rfl bwk_rfl ?_ ?_|refine blt_row ?_|exact lt_i _ _|exact lt_bds _ _|exact lt_jts _ _|exact lt_k4s _ _|exact lt_cts _ _|exact lt_p6s _ _|refine lt_agg ?_|exact lt_nil|refine lt_cons ?_ ?_|refine lt_app ?_ ?_|refine lt_map (fun _=>?_))
        all_goals (try rfl)
      ·have hoc : oldC w.cs k = Ct.o:=if_neg hk0
       rw [hoc] at hF
       have c1 : (0 ≤ findK w.cs k) = False:=eq_false hk0
       have c4 : decide (0 ≤ findK w.cs k) = false:=decide_eq_false hk0
       have j7 : PCall Tryz.prog 102 [.agg [.i 0,.i 0,.sl []],.agg [.i M.x,.i M.y,.sl ((M.ps.map CPt.p6).map P6.v)]] (.agg [.i M.x,.i M.y,.sl ((wsC Ct.o M).map P6.v)]):=by have h:=c_rws 0 0 [] (by decide) M.x M.y (M.ps.map CPt.p6) (by rw [List.length_map]; omega); exact h
       generalize findK w.cs k = fk at *
       generalize (fxZ w.bs k.a k.fa) = f at *
       generalize (fxZ w.bs k.b k.fb) = f' at *
       generalize (bdZ w.bs k.a) = B at *
       generalize (bdZ w.bs k.b) = B' at *
       repeat' (first|simp only [go_sem,↓reduceIte,Nat.reduceLT,Nat.reduceEqDiff,Nat.reduceAdd,Nat.reduceLeDiff,Nat.reduceMul,reduceCtorEq,e1,e2,e3,hs1,c1,b2,b3,b4,d2,d3,d4]|refine cst_go ?_|exact NRs.nil|refine NRs.cons ?_ ?_|exact NR.refl _|exact NR.nl rfl|refine NR.aggs ?_|refine cst_nl j7 ?_ ?_|(refine regOk_go ?_; kernel_rfl)|refine And.intro ?_ ?_)
       all_goals (try omega)
       all_goals (try exact cts_len _)
       all_goals (try exact cts_one _)
       all_goals (try (rename_i h1 h2; rw [h1,h2]; rfl))
       all_goals (try (rename_i h1; rw [h1]; rfl))
       refine ⟨Fs.next hlt,Nat.sub_lt_sub_left hlt (Nat.lt_succ_self _),wk_go (by decide) ?_ ?_⟩
       all_goals (try simp only [show (Fs.next hlt).i = i + 1 from rfl,hF,List.length_append,List.map_append])
       ·repeat' (first|exact tw_nil|refine tw_cons rfl ?_ ?_|exact lt_i _ _|exact Lt.pt _ _ (by decide)|exact lt_k4s _ _|exact Lt.ow _ _ (by decide))
        all_goals (try rfl)
       ·repeat' (first|exact hw_nil|refine hw_cons (by decide) rfl bwk_rfl ?_ ?_|refine blt_row ?_|exact lt_i _ _|exact lt_bds _ _|exact lt_jts _ _|exact lt_k4s _ _|exact lt_cts _ _|exact lt_p6s _ _|refine lt_agg ?_|exact lt_nil|refine lt_cons ?_ ?_|refine lt_app ?_ ?_|refine lt_map (fun _=>?_))
        all_goals (try rfl)
   ·have f1:=inlt hlt
    have hii : i = P.length:=by omega
    subst hii
    repeat' (first|simp only [go_sem,↓reduceIte,Nat.reduceLT,Nat.reduceEqDiff,Nat.reduceAdd,f1])
    all_goals (try rfl)
 ·have hv' : (wval w = 0) = False:=eq_false hv
  have hr : upd w = []:=if_neg hv
  rw [hr]
  repeat' (first|simp only [go_sem,↓reduceIte,Nat.reduceLT,Nat.reduceEqDiff,Nat.reduceAdd,Nat.reduceLeDiff,reduceCtorEq,hv']|refine cst_go ?_)
  all_goals (try rfl)
end Go.Proofs.YtplmagdbnbijlaaGreat
