/-
  Chapter 22: the order of keys, boxes of proxies, the reference's insertion. Conditions: none.
-/
import Derived.Test.YtplmagdbnbijlaaGreatC60
import Derived.Test.YtplmagdbnbijlaaGreatC41
import Derived.Test.YtplmagdbnbijlaaGreatME
import Derived.Outline
import Derived.Test.YtplmagdbnbijlaaGreatC28
import Derived.Test.YtplmagdbnbijlaaGreatAlE
set_option maxHeartbeats 4000000
set_option maxRecDepth 20000
set_option linter.all false
namespace Go.Proofs.YtplmagdbnbijlaaGreat
open Go.RowKit Go.AL Go.Carom
theorem c_orq4 (a b c d : Int) : PCall Tryz.prog 112 [.sl [.i a,.i b,.i c,.i d]] (.i (orI a (orI b (orI c d)))):=by
 refine pcall_of hm Tryz.func112 rfl (by kernel_rfl) (by rw [Tryz.ntmps112]; exact Nat.le_of_ble_eq_true rfl) (lt_cons (.sl _ (lt_cons (lt_i _ _) (lt_cons (lt_i _ _) (lt_cons (lt_i _ _) (lt_cons (lt_i _ _) lt_nil))))) lt_nil) (lt_i _ _) ?_
 rw [Tryz.ntmps112,Tryz.results112]
 have k0 : ((0 : Nat) : Int) = 0:=rfl
 have k1 : ((1 : Nat) : Int) = 1:=rfl
 have k2 : ((2 : Nat) : Int) = 2:=rfl
 have k3 : ((3 : Nat) : Int) = 3:=rfl
 have k4 : ((4 : Nat) : Int) = 4:=rfl
 have w1 : IntKind.i64.wrap 1 = 1:=by kernel_rfl
 have w2 : IntKind.i64.wrap 2 = 2:=by kernel_rfl
 have w3 : IntKind.i64.wrap 3 = 3:=by kernel_rfl
 have w4 : IntKind.i64.wrap 4 = 4:=by kernel_rfl
 repeat' (first|simp only [go_sem,↓reduceIte,Nat.reduceLT,Nat.reduceEqDiff,Nat.reduceAdd,Nat.reduceLeDiff,reduceCtorEq,Int.reduceLT,Int.reduceLE,Int.reduceAdd,Int.reduceToNat,k4,w1,w2,w3,w4]|refine tr_rounds hm (.s (.s (.s (.s (.s .z))))) ?_|refine acond_split (fun _=>?_) (fun _=>?_))
 all_goals (try simp only [decide_eq_true_eq,decide_eq_false_iff_not,Bool.not_eq_true',Bool.not_eq_false'] at *)
 all_goals (refine leaf_i ?_; unfold orI; (try split) <;> (try split) <;> (try split) <;> omega)
theorem c_cmpQ (a b : K4) : PCall Tryz.prog 62 [.agg [.i a.a,.i a.fa,.i a.b,.i a.fb],.agg [.i b.a,.i b.fa,.i b.b,.i b.fb]] (.i (cmpQ a b)):=by
 refine pcall_of hm Tryz.func62 rfl (by kernel_rfl) (by rw [Tryz.ntmps62]; exact Nat.le_of_ble_eq_true rfl) (lt_cons (lt_agg (lt_cons (lt_i _ _) (lt_cons (lt_i _ _) (lt_cons (lt_i _ _) (lt_cons (lt_i _ _) lt_nil))))) (lt_cons (lt_agg (lt_cons (lt_i _ _) (lt_cons (lt_i _ _) (lt_cons (lt_i _ _) (lt_cons (lt_i _ _) lt_nil))))) lt_nil)) (lt_i _ _) ?_
 rw [Tryz.ntmps62,Tryz.results62]
 have i0 : HasC Tryz.prog 113 [.i a.a,.i b.a] (.i (cmpI a.a b.a)):=⟨c_cmpS _ _⟩
 have i1 : HasC Tryz.prog 113 [.i a.fa,.i b.fa] (.i (cmpI a.fa b.fa)):=⟨c_cmpS _ _⟩
 have i2 : HasC Tryz.prog 113 [.i a.b,.i b.b] (.i (cmpI a.b b.b)):=⟨c_cmpS _ _⟩
 have i3 : HasC Tryz.prog 113 [.i a.fb,.i b.fb] (.i (cmpI a.fb b.fb)):=⟨c_cmpS _ _⟩
 have i5 : HasC Tryz.prog 112 [.sl [.i (cmpI a.a b.a),.i (cmpI a.fa b.fa),.i (cmpI a.b b.b),.i (cmpI a.fb b.fb)]] (.i (cmpQ a b)):=⟨c_orq4 _ _ _ _⟩
 repeat' (first|simp only [go_sem,↓reduceIte,Nat.reduceLT,Nat.reduceEqDiff,Nat.reduceAdd,Nat.reduceLeDiff,Nat.reduceMul,reduceCtorEq]|refine cst_go ?_|(refine regOk_go ?_; kernel_rfl))
 all_goals (try rfl)
 all_goals (try decide)
theorem c_rqkless (a b : K4) : PCall Tryz.prog 26 [.agg [.i a.a,.i a.fa,.i a.b,.i a.fb],.agg [.i b.a,.i b.fa,.i b.b,.i b.fb]] (.b (kql a b)):=by
 refine pcall_of hm Tryz.func26 rfl (by kernel_rfl) (by rw [Tryz.ntmps26]; exact Nat.le_of_ble_eq_true rfl) (lt_cons (lt_agg (lt_cons (lt_i _ _) (lt_cons (lt_i _ _) (lt_cons (lt_i _ _) (lt_cons (lt_i _ _) lt_nil))))) (lt_cons (lt_agg (lt_cons (lt_i _ _) (lt_cons (lt_i _ _) (lt_cons (lt_i _ _) (lt_cons (lt_i _ _) lt_nil))))) lt_nil)) (lt_b _ _) ?_
 rw [Tryz.ntmps26,Tryz.results26]
 repeat' (first|simp only [go_sem,↓reduceIte,Nat.reduceLT,Nat.reduceEqDiff,Nat.reduceAdd,Nat.reduceLeDiff,reduceCtorEq]|refine acond_split (fun _=>?_) (fun _=>?_))
 all_goals (try simp only [decide_eq_true_eq,decide_eq_false_iff_not,Bool.not_eq_true',Bool.not_eq_false'] at *)
 all_goals (refine leaf_b ?_; rw [Bool.eq_iff_iff,kql_iff]; (try rw [decide_eq_true_eq]); (try omega))
theorem k4_none {l : List K4} {i : Nat} (h : ¬ i < l.length) : (l.map K4.v).getD i .und = .und:=by
 rw [List.getD_eq_getElem?_getD,List.getElem?_eq_none (by rw [List.length_map]; omega)]; rfl
theorem k4_take (l : List K4) (k : Nat) : ((l.map K4.v).take k).drop 0 = (l.take k).map K4.v:=by rw [List.drop_zero,List.map_take]
theorem k4_drop (l : List K4) (k : Nat) : ((l.map K4.v).take l.length).drop k = (l.drop k).map K4.v:=by rw [show l.length = (l.map K4.v).length by rw [List.length_map],List.take_length,List.map_drop]
end Go.Proofs.YtplmagdbnbijlaaGreat
/-
 Chapter 22: boxes of proxies,few bodies,the reference's insertion and first bodies. Conditions: none.
-/
namespace Go.Proofs.YtplmagdbnbijlaaGreat
open Go.RowKit Go.AL Go.Carom
structure FW (bs : List Bd) : Prop where
 b : bs.length ≤ 20
 f : ∀ b ∈ bs,b.fs.length ≤ 8 ∧ ∀ f ∈ b.fs,f.vs.length ≤ 20
theorem c_first (bs : List Bd) (i : Nat) (hib : i < bs.length) (hbl : bs.length ≤ maxLen) : PCall Tryz.prog 63 [.sl (bs.map Bd.v),.i (i : Int)] (.b (frst bs i)):=by
 refine pcall_of hm Tryz.func63 rfl (by kernel_rfl) (by rw [Tryz.ntmps63]; exact Nat.le_of_ble_eq_true rfl) (lt_cons (lt_bds _ _) (lt_cons (lt_i _ _) lt_nil)) (lt_b _ _) ?_
 rw [Tryz.ntmps63,Tryz.results63]
 have E6:=ilt hib
 have E4:=bd_getD hib
 have k0 : ((0 : Nat) : Int) = 0:=rfl
 repeat' (first|simp only [go_sem,↓reduceIte,Nat.reduceLT,Nat.reduceAdd])
 refine tr_lp hm [0,1] [] (fun x' : LS (i) (fun k=>!decide ((bs.getD k Bd.o).id = (bs.getD i Bd.o).id))=>[(5,.i x'.i)]) (fun x' : LS (i) (fun k=>!decide ((bs.getD k Bd.o).id = (bs.getD i Bd.o).id))=>[]) (fun x'=>i - x'.i) (LS.start _ _) ?_ ?_ ?_
 ·repeat' (first|exact tw_nil|refine tw_cons rfl ?_ ?_|exact lt_i _ _|exact lt_bds _ _)
 ·repeat' (first|exact hw_nil)
 ·rintro ⟨k,hi,hh⟩
  by_cases hlt : k < i
  ·have e1:=ilt hlt
   have e2:=isucc hlt (show i ≤ maxLen by omega)
   have e3:=bd_getD (l:=bs) (i:=k) (by omega)
   have e5:=ilt (i:=k) (n:=bs.length) (by omega)
   repeat' (first|simp only [go_sem,↓reduceIte,Nat.reduceLT,Nat.reduceEqDiff,Nat.reduceAdd,Nat.reduceLeDiff,reduceCtorEq,e1,e2,e3,e5,E4,E6]|(refine regOk_go ?_; kernel_rfl)|refine acond_split (fun _=>?_) (fun _=>?_)|refine And.intro ?_ ?_)
   all_goals (try omega)
   ·rename_i hc
    have h' : decide ((bs.getD k Bd.o).id = (bs.getD i Bd.o).id) = true:=hc
    exact leaf_b (LS.fail hlt (show (!decide ((bs.getD k Bd.o).id = (bs.getD i Bd.o).id)) = false by rw [h']; rfl)).symm
   ·rename_i hc
    refine ⟨LS.next hlt hh (by have h' : decide ((bs.getD k Bd.o).id = (bs.getD i Bd.o).id) = false:=hc; show (!decide ((bs.getD k Bd.o).id = (bs.getD i Bd.o).id)) = true; rw [h']; rfl),Nat.sub_lt_sub_left hlt (Nat.lt_succ_self _),wk_go (by decide) ?_ ?_⟩
    ·repeat' (first|exact tw_nil|refine tw_cons rfl ?_ ?_|exact lt_i _ _|exact lt_bds _ _)
    ·repeat' (first|exact hw_nil)
  ·have f1:=inlt hlt
   have hd:=LS.done hlt hh
   repeat' (first|simp only [go_sem,↓reduceIte,Nat.reduceLT,Nat.reduceEqDiff,Nat.reduceAdd,reduceCtorEq,f1])
   all_goals exact leaf_b hd.symm
theorem c_rexp (x y u v m : Int) : PCall Tryz.prog 115 [.agg [.i x,.i y,.i u,.i v],.i m] (.agg [.i (bexp x y u v m).a,.i (bexp x y u v m).b,.i (bexp x y u v m).c,.i (bexp x y u v m).d]):=by
 refine pcall_of hm Tryz.func115 rfl (by kernel_rfl) (by rw [Tryz.ntmps115]; exact Nat.le_of_ble_eq_true rfl) (lt_cons (lt_agg (lt_cons (lt_i _ _) (lt_cons (lt_i _ _) (lt_cons (lt_i _ _) (lt_cons (lt_i _ _) lt_nil))))) (lt_cons (lt_i _ _) lt_nil)) (lt_agg (lt_cons (lt_i _ _) (lt_cons (lt_i _ _) (lt_cons (lt_i _ _) (lt_cons (lt_i _ _) lt_nil))))) ?_
 rw [Tryz.ntmps115,Tryz.results115]
 have i1 : HasC Tryz.prog 114 [.agg [.i x,.i y,.i u,.i v]] (.b (bvalid x y u v)):=⟨c_rbvalid _ _ _ _⟩
 have i2 : HasC Tryz.prog 114 [.agg [.i (fsub x m),.i (fsub y m),.i (fadd u m),.i (fadd v m)]] (.b (bvalid (fsub x m) (fsub y m) (fadd u m) (fadd v m))):=⟨c_rbvalid _ _ _ _⟩
 repeat' (first|simp only [go_sem,↓reduceIte,Nat.reduceLT,Nat.reduceEqDiff,Nat.reduceAdd,Nat.reduceLeDiff,reduceCtorEq]|refine cst_go ?_|refine gcst_go ?_|(refine regOk_go ?_; kernel_rfl)|refine acond_split (fun _=>?_) (fun _=>?_)|refine And.intro ?_ ?_)
 all_goals (try simp only [Bool.or_eq_true,Bool.or_eq_false_iff,Bool.not_eq_true',Bool.not_eq_false'] at *)
 all_goals first
  | (unfold bexp; simp only [*,Bool.not_true,↓reduceIte,Bool.false_eq_true]; done)
  | (rename_i hc; rcases hc with hc|hc; all_goals (unfold bexp; simp only [hc,Bool.not_false,↓reduceIte,ite_self]); done)
theorem c_proxy (B : Bd) (i : Nat) (h : i < B.fs.length) (hv : (B.fs.getD i Fx.o).vs.length ≤ maxLen) : PCall Tryz.prog 70 [.agg [.i B.id,.i B.kd,.i B.px,.i B.py,.i B.an,.i B.vx,.i B.vy,.i B.av,.i B.gx,.i B.gy,.i B.tq,.i B.ld,.i B.ad,.i B.gs,.b B.bul,.b B.fr,.b B.ns,.b B.asl,.i B.idl,.sl (B.fs.map Fx.v)],.i (i : Int)] (.agg [.i B.id,.i (i : Int),.i (pxQ B (B.fs.getD i Fx.o)).a,.i (pxQ B (B.fs.getD i Fx.o)).b,.i (pxQ B (B.fs.getD i Fx.o)).c,.i (pxQ B (B.fs.getD i Fx.o)).d]):=by
 refine pcall_of hm Tryz.func70 rfl (by kernel_rfl) (by rw [Tryz.ntmps70]; exact Nat.le_of_ble_eq_true rfl) (lt_cons (lt_agg (lt_cons (lt_i _ _) (lt_cons (lt_i _ _) (lt_cons (lt_i _ _) (lt_cons (lt_i _ _) (lt_cons (lt_i _ _) (lt_cons (lt_i _ _) (lt_cons (lt_i _ _) (lt_cons (lt_i _ _) (lt_cons (lt_i _ _) (lt_cons (lt_i _ _) (lt_cons (lt_i _ _) (lt_cons (lt_i _ _) (lt_cons (lt_i _ _) (lt_cons (lt_i _ _) (lt_cons (lt_b _ _) (lt_cons (lt_b _ _) (lt_cons (lt_b _ _) (lt_cons (lt_b _ _) (lt_cons (lt_i _ _) (lt_cons (lt_fxs _ _) lt_nil))))))))))))))))))))) (lt_cons (lt_i _ _) lt_nil)) (lt_agg (lt_cons (lt_i _ _) (lt_cons (lt_i _ _) (lt_cons (lt_i _ _) (lt_cons (lt_i _ _) (lt_cons (lt_i _ _) (lt_cons (lt_i _ _) lt_nil))))))) ?_
 rw [Tryz.ntmps70,Tryz.results70]
 have e3:=fx_getD h
 have e1:=ilt h
 have i1 : HasC Tryz.prog 119 [.agg [.i (B.fs.getD i Fx.o).k,.i (B.fs.getD i Fx.o).r,.sl ((B.fs.getD i Fx.o).vs.map ev)],.agg [.i B.px,.i B.py,.i B.an]] (.agg [.i (bxQ B (B.fs.getD i Fx.o)).a,.i (bxQ B (B.fs.getD i Fx.o)).b,.i (bxQ B (B.fs.getD i Fx.o)).c,.i (bxQ B (B.fs.getD i Fx.o)).d]):=⟨c_bnds (B.fs.getD i Fx.o).k (B.fs.getD i Fx.o).r (B.fs.getD i Fx.o).vs hv B.px B.py B.an⟩
 have hP : pxQ B (B.fs.getD i Fx.o) = bexp (bxQ B (B.fs.getD i Fx.o)).a (bxQ B (B.fs.getD i Fx.o)).b (bxQ B (B.fs.getD i Fx.o)).c (bxQ B (B.fs.getD i Fx.o)).d 1024:=rfl
 rw [hP]
 generalize bxQ B (B.fs.getD i Fx.o) = q at *
 generalize (B.fs.getD i Fx.o) = f at *
 repeat' (first|simp only [go_sem,↓reduceIte,Nat.reduceLT,Nat.reduceEqDiff,Nat.reduceAdd,Nat.reduceLeDiff,reduceCtorEq,e1,e3]|refine cst_go ?_|(refine regOk_go ?_; kernel_rfl))
 all_goals (try omega)
 all_goals (try rfl)
theorem c_rbox (B : Bd) (i : Nat) (h : i < B.fs.length) (hv : (B.fs.getD i Fx.o).vs.length ≤ maxLen) : PCall Tryz.prog 65 [.agg [.i B.id,.i B.kd,.i B.px,.i B.py,.i B.an,.i B.vx,.i B.vy,.i B.av,.i B.gx,.i B.gy,.i B.tq,.i B.ld,.i B.ad,.i B.gs,.b B.bul,.b B.fr,.b B.ns,.b B.asl,.i B.idl,.sl (B.fs.map Fx.v)],.i (i : Int)] (.agg [.i (pxQ B (B.fs.getD i Fx.o)).a,.i (pxQ B (B.fs.getD i Fx.o)).b,.i (pxQ B (B.fs.getD i Fx.o)).c,.i (pxQ B (B.fs.getD i Fx.o)).d]):=by
 refine pcall_of hm Tryz.func65 rfl (by kernel_rfl) (by rw [Tryz.ntmps65]; exact Nat.le_of_ble_eq_true rfl) (lt_cons (lt_agg (lt_cons (lt_i _ _) (lt_cons (lt_i _ _) (lt_cons (lt_i _ _) (lt_cons (lt_i _ _) (lt_cons (lt_i _ _) (lt_cons (lt_i _ _) (lt_cons (lt_i _ _) (lt_cons (lt_i _ _) (lt_cons (lt_i _ _) (lt_cons (lt_i _ _) (lt_cons (lt_i _ _) (lt_cons (lt_i _ _) (lt_cons (lt_i _ _) (lt_cons (lt_i _ _) (lt_cons (lt_b _ _) (lt_cons (lt_b _ _) (lt_cons (lt_b _ _) (lt_cons (lt_b _ _) (lt_cons (lt_i _ _) (lt_cons (lt_fxs _ _) lt_nil))))))))))))))))))))) (lt_cons (lt_i _ _) lt_nil)) (lt_agg (lt_cons (lt_i _ _) (lt_cons (lt_i _ _) (lt_cons (lt_i _ _) (lt_cons (lt_i _ _) lt_nil))))) ?_
 rw [Tryz.ntmps65,Tryz.results65]
 have e3:=fx_getD h
 have e1:=ilt h
 have i1 : HasC Tryz.prog 116 [.agg [.i (B.fs.getD i Fx.o).k,.i (B.fs.getD i Fx.o).r,.sl ((B.fs.getD i Fx.o).vs.map ev)],.agg [.i B.px,.i B.py,.i B.an]] (.agg [.i (bxQ B (B.fs.getD i Fx.o)).a,.i (bxQ B (B.fs.getD i Fx.o)).b,.i (bxQ B (B.fs.getD i Fx.o)).c,.i (bxQ B (B.fs.getD i Fx.o)).d]):=⟨c_rbnds (B.fs.getD i Fx.o).k (B.fs.getD i Fx.o).r (B.fs.getD i Fx.o).vs hv B.px B.py B.an⟩
 have i2 : HasC Tryz.prog 115 [.agg [.i (bxQ B (B.fs.getD i Fx.o)).a,.i (bxQ B (B.fs.getD i Fx.o)).b,.i (bxQ B (B.fs.getD i Fx.o)).c,.i (bxQ B (B.fs.getD i Fx.o)).d],.i 1024] (.agg [.i (bexp (bxQ B (B.fs.getD i Fx.o)).a (bxQ B (B.fs.getD i Fx.o)).b (bxQ B (B.fs.getD i Fx.o)).c (bxQ B (B.fs.getD i Fx.o)).d 1024).a,.i (bexp (bxQ B (B.fs.getD i Fx.o)).a (bxQ B (B.fs.getD i Fx.o)).b (bxQ B (B.fs.getD i Fx.o)).c (bxQ B (B.fs.getD i Fx.o)).d 1024).b,.i (bexp (bxQ B (B.fs.getD i Fx.o)).a (bxQ B (B.fs.getD i Fx.o)).b (bxQ B (B.fs.getD i Fx.o)).c (bxQ B (B.fs.getD i Fx.o)).d 1024).c,.i (bexp (bxQ B (B.fs.getD i Fx.o)).a (bxQ B (B.fs.getD i Fx.o)).b (bxQ B (B.fs.getD i Fx.o)).c (bxQ B (B.fs.getD i Fx.o)).d 1024).d]):=⟨c_rexp _ _ _ _ _⟩
 have hP : pxQ B (B.fs.getD i Fx.o) = bexp (bxQ B (B.fs.getD i Fx.o)).a (bxQ B (B.fs.getD i Fx.o)).b (bxQ B (B.fs.getD i Fx.o)).c (bxQ B (B.fs.getD i Fx.o)).d 1024:=rfl
 rw [hP]
 generalize bxQ B (B.fs.getD i Fx.o) = q at *
 generalize (B.fs.getD i Fx.o) = f at *
 repeat' (first|simp only [go_sem,↓reduceIte,Nat.reduceLT,Nat.reduceEqDiff,Nat.reduceAdd,Nat.reduceLeDiff,reduceCtorEq,e1,e3]|refine cst_go ?_|(refine regOk_go ?_; kernel_rfl))
 all_goals (try omega)
 all_goals (try rfl)
theorem insK_at {l : List K4} {i : Nat} {n : K4} (hi : i ≤ l.length) (h : ∀ j,j < i → kql (l.getD j K4.o) n = true) (hn : i = l.length ∨ kql (l.getD i K4.o) n = false) : insK n l = l.take i ++ n :: l.drop i:=by
 obtain ⟨h1,h2⟩:=tw_at (fun y=>kql y n) K4.o (l:=l) (i:=i) hi h hn
 have h3 : l.dropWhile (fun y=>kql y n) = l.drop i:=h2
 have h4 : l.takeWhile (fun y=>kql y n) = l.take i:=h1
 unfold insK insS
 rw [h3,h4]
theorem c_rinsK (l : List K4) (hl : l.length ≤ 1000000) (n : K4) : PCall Tryz.prog 66 [.sl (l.map K4.v),.agg [.i n.a,.i n.fa,.i n.b,.i n.fb]] (.sl ((insK n l).map K4.v)):=by
 refine pcall_of hm Tryz.func66 rfl (by kernel_rfl) (by rw [Tryz.ntmps66]; exact Nat.le_of_ble_eq_true rfl) (lt_cons (lt_k4s _ _) (lt_cons (lt_agg (lt_cons (lt_i _ _) (lt_cons (lt_i _ _) (lt_cons (lt_i _ _) (lt_cons (lt_i _ _) lt_nil))))) lt_nil)) (lt_k4s _ _) ?_
 rw [Tryz.ntmps66,Tryz.results66]
 have m0 : maxLen = 9223372036854775807:=rfl
 have k0 : ((0 : Nat) : Int) = 0:=rfl
 repeat' (first|simp only [go_sem,↓reduceIte,Nat.reduceLT,Nat.reduceAdd,reduceCtorEq])
 refine tr_lp hm [0,3] [0,1] (fun x' : LS l.length (fun j=>kql (l.getD j K4.o) n)=>[(5,.i x'.i)]) (fun _=>[]) (fun x'=>l.length - x'.i) (LS.start _ _) ?_ ?_ ?_
 ·repeat' (first|exact tw_nil|refine tw_cons rfl ?_ ?_|exact lt_i _ _|exact Lt.pt _ _ (by decide)|exact lt_k4s _ _)
 ·repeat' (first|exact hw_nil|refine hw_cons (by decide) rfl bwk_rfl ?_ ?_|exact trivial|exact lt_i _ _|refine lt_agg ?_|exact lt_nil|refine lt_cons ?_ ?_)
 ·rintro ⟨i,hi,hh⟩
  by_cases hlt : i < l.length
  ·have e1:=ilt hlt
   have e2:=isucc hlt (show l.length ≤ maxLen by omega)
   have e3:=k4_getD hlt
   have j1 : HasC Tryz.prog 26 [.agg [.i (l.getD i K4.o).a,.i (l.getD i K4.o).fa,.i (l.getD i K4.o).b,.i (l.getD i K4.o).fb],.agg [.i n.a,.i n.fa,.i n.b,.i n.fb]] (.b (kql (l.getD i K4.o) n)):=⟨c_rqkless _ _⟩
   cases h1 : kql (l.getD i K4.o) n with
   | true=>
    rw [h1] at j1
    repeat' (first|simp only [go_sem,↓reduceIte,Nat.reduceLT,Nat.reduceEqDiff,Nat.reduceAdd,Nat.reduceLeDiff,reduceCtorEq,e1,e2,e3]|refine gcst_go ?_|(refine regOk_go ?_; kernel_rfl)|refine And.intro ?_ ?_)
    all_goals (try omega)
    refine ⟨LS.next hlt hh h1,Nat.sub_lt_sub_left hlt (Nat.lt_succ_self _),wk_go (by decide) ?_ ?_⟩
    ·repeat' (first|exact tw_nil|refine tw_cons rfl ?_ ?_|exact lt_i _ _|exact Lt.pt _ _ (by decide)|exact lt_k4s _ _)
    ·repeat' (first|exact hw_nil|refine hw_cons (by decide) rfl bwk_rfl ?_ ?_|exact trivial|exact lt_i _ _|refine lt_agg ?_|exact lt_nil|refine lt_cons ?_ ?_)
   | false=>
    rw [h1] at j1
    have hr : insK n l = l.take i ++ n :: l.drop i:=insK_at hi hh (.inr h1)
    rw [hr]
    have hT:=k4_take l i
    have hD:=k4_drop l i
    have dk : ((i : Int) ≤ (l.length : Int)) = True:=eq_true (by omega)
    have tn : ((i : Int)).toNat = i:=by omega
    have tl : ((l.length : Int)).toNat = l.length:=by omega
    repeat' (first|simp only [go_sem,↓reduceIte,Nat.reduceLT,Nat.reduceEqDiff,Nat.reduceAdd,Nat.reduceLeDiff,Nat.reduceMul,reduceCtorEq,Int.reduceLE,Int.reduceToNat,e1,e3,dk,tn,tl,hT,hD,nc0]|refine gcst_go ?_|(refine regOk_go ?_; kernel_rfl)|refine And.intro ?_ ?_)
    all_goals (try omega)
    all_goals (try (simp only [List.length_append,List.length_map,List.length_take,List.length_drop,List.length_cons,List.length_nil]; omega))
    all_goals (try exact k4s_len _)
    all_goals (try exact k4s_one _)
    all_goals (try rfl)
    all_goals (try (rw [List.map_append]; rfl))
  ·have f1:=inlt hlt
   have e3:=k4_none hlt
   have hr : insK n l = l.take i ++ n :: l.drop i:=insK_at hi hh (.inl (by omega))
   rw [hr]
   have hT:=k4_take l i
   have hD:=k4_drop l i
   have dk : ((i : Int) ≤ (l.length : Int)) = True:=eq_true (by omega)
   have tn : ((i : Int)).toNat = i:=by omega
   have tl : ((l.length : Int)).toNat = l.length:=by omega
   repeat' (first|simp only [go_sem,↓reduceIte,Nat.reduceLT,Nat.reduceEqDiff,Nat.reduceAdd,Nat.reduceLeDiff,Nat.reduceMul,reduceCtorEq,Int.reduceLE,Int.reduceToNat,f1,e3,dk,tn,tl,hT,hD,nc0]|refine gcst_deadb ?_|(refine regOk_go ?_; kernel_rfl)|refine And.intro ?_ ?_)
   all_goals (try omega)
   all_goals (try (simp only [List.length_append,List.length_map,List.length_take,List.length_drop,List.length_cons,List.length_nil]; omega))
   all_goals (try exact k4s_len _)
   all_goals (try exact k4s_one _)
   all_goals (try rfl)
   all_goals (try (rw [List.map_append]; rfl))
end Go.Proofs.YtplmagdbnbijlaaGreat
/-
 Chapter 22: which pairs are accepted,their keys,the scene. Conditions: none.
-/
namespace Go.Proofs.YtplmagdbnbijlaaGreat
open Go.RowKit Go.AL Go.Carom
theorem c_acc (bs : List Bd) (js : List Jt) (r : List P2) (e : List En) (k i k' i' : Nat) (hk : k < bs.length) (hk' : k' < bs.length) (hi : i < (bs.getD k Bd.o).fs.length) (hi' : i' < (bs.getD k' Bd.o).fs.length) (hj : js.length ≤ 1000000) : PCall Tryz.prog 59 [.agg [.sl (bs.map Bd.v),.sl (js.map Jt.v),.sl (r.map P2.v),.sl (e.map En.v)],.agg [.i (k : Int),.i (i : Int)],.agg [.i (k' : Int),.i (i' : Int)]] (.b (acpP bs js ⟨(k : Int),(i : Int)⟩ ⟨(k' : Int),(i' : Int)⟩)):=by
 refine pcall_of hm Tryz.func59 rfl (by kernel_rfl) (by rw [Tryz.ntmps59]; exact Nat.le_of_ble_eq_true rfl) (lt_cons (lt_agg (lt_cons (lt_bds _ _) (lt_cons (lt_jts _ _) (lt_cons (lt_p2s _ _) (lt_cons (lt_ens _ _) lt_nil))))) (lt_cons (lt_agg (lt_cons (lt_i _ _) (lt_cons (lt_i _ _) lt_nil))) (lt_cons (lt_agg (lt_cons (lt_i _ _) (lt_cons (lt_i _ _) lt_nil))) lt_nil))) (lt_b _ _) ?_
 rw [Tryz.ntmps59,Tryz.results59]
 have i1 : HasC Tryz.prog 21 [.agg [.i ((bs.getD k Bd.o).fs.getD i Fx.o).k,.i ((bs.getD k Bd.o).fs.getD i Fx.o).r,.sl (((bs.getD k Bd.o).fs.getD i Fx.o).vs.map ev),.i ((bs.getD k Bd.o).fs.getD i Fx.o).den,.i ((bs.getD k Bd.o).fs.getD i Fx.o).fri,.i ((bs.getD k Bd.o).fs.getD i Fx.o).res,.b ((bs.getD k Bd.o).fs.getD i Fx.o).sen,.i ((bs.getD k Bd.o).fs.getD i Fx.o).cat,.i ((bs.getD k Bd.o).fs.getD i Fx.o).msk,.i ((bs.getD k Bd.o).fs.getD i Fx.o).grp],.agg [.i ((bs.getD k' Bd.o).fs.getD i' Fx.o).k,.i ((bs.getD k' Bd.o).fs.getD i' Fx.o).r,.sl (((bs.getD k' Bd.o).fs.getD i' Fx.o).vs.map ev),.i ((bs.getD k' Bd.o).fs.getD i' Fx.o).den,.i ((bs.getD k' Bd.o).fs.getD i' Fx.o).fri,.i ((bs.getD k' Bd.o).fs.getD i' Fx.o).res,.b ((bs.getD k' Bd.o).fs.getD i' Fx.o).sen,.i ((bs.getD k' Bd.o).fs.getD i' Fx.o).cat,.i ((bs.getD k' Bd.o).fs.getD i' Fx.o).msk,.i ((bs.getD k' Bd.o).fs.getD i' Fx.o).grp]] (.b (shd ((bs.getD k Bd.o).fs.getD i Fx.o) ((bs.getD k' Bd.o).fs.getD i' Fx.o))):=⟨c_shd _ _⟩
 have i2 : HasC Tryz.prog 22 [.sl (js.map Jt.v),.i (bs.getD k Bd.o).id,.i (bs.getD k' Bd.o).id] (.b (conn js (bs.getD k Bd.o).id (bs.getD k' Bd.o).id)):=⟨c_conn js hj _ _⟩
 have e1:=ilt hk
 have e2:=ilt hk'
 have e3:=bd_getD hk
 have e4:=bd_getD hk'
 have e5:=ilt hi
 have e6:=ilt hi'
 have e7:=fx_getD hi
 have e8:=fx_getD hi'
 have hA : acpP bs js ⟨(k : Int),(i : Int)⟩ ⟨(k' : Int),(i' : Int)⟩ = ((((decide ((bs.getD k Bd.o).kd = 3) || decide ((bs.getD k' Bd.o).kd = 3)) && !decide ((k : Int) = (k' : Int))) && shd ((bs.getD k Bd.o).fs.getD i Fx.o) ((bs.getD k' Bd.o).fs.getD i' Fx.o)) && !conn js (bs.getD k Bd.o).id (bs.getD k' Bd.o).id):=rfl
 rw [hA]
 generalize ((bs.getD k Bd.o).fs.getD i Fx.o) = f1 at *
 generalize ((bs.getD k' Bd.o).fs.getD i' Fx.o) = f2 at *
 generalize (bs.getD k Bd.o) = b1 at *
 generalize (bs.getD k' Bd.o) = b2 at *
 repeat' (first|simp only [go_sem,↓reduceIte,Nat.reduceLT,Nat.reduceEqDiff,Nat.reduceAdd,Nat.reduceLeDiff,reduceCtorEq,e1,e2,e3,e4,e5,e6,e7,e8]|refine gcst_go ?_|(refine regOk_go ?_; kernel_rfl)|refine And.intro ?_ ?_)
 all_goals (try omega)
 all_goals (try rfl)
theorem c_keyP (bs : List Bd) (js : List Jt) (r : List P2) (e : List En) (k i k' i' : Nat) (hk : k < bs.length) (hk' : k' < bs.length) : PCall Tryz.prog 60 [.agg [.sl (bs.map Bd.v),.sl (js.map Jt.v),.sl (r.map P2.v),.sl (e.map En.v)],.agg [.i (k : Int),.i (i : Int)],.agg [.i (k' : Int),.i (i' : Int)]] (.agg [.i (keyP bs ⟨(k : Int),(i : Int)⟩ ⟨(k' : Int),(i' : Int)⟩).a,.i (keyP bs ⟨(k : Int),(i : Int)⟩ ⟨(k' : Int),(i' : Int)⟩).fa,.i (keyP bs ⟨(k : Int),(i : Int)⟩ ⟨(k' : Int),(i' : Int)⟩).b,.i (keyP bs ⟨(k : Int),(i : Int)⟩ ⟨(k' : Int),(i' : Int)⟩).fb]):=by
 refine pcall_of hm Tryz.func60 rfl (by kernel_rfl) (by rw [Tryz.ntmps60]; exact Nat.le_of_ble_eq_true rfl) (lt_cons (lt_agg (lt_cons (lt_bds _ _) (lt_cons (lt_jts _ _) (lt_cons (lt_p2s _ _) (lt_cons (lt_ens _ _) lt_nil))))) (lt_cons (lt_agg (lt_cons (lt_i _ _) (lt_cons (lt_i _ _) lt_nil))) (lt_cons (lt_agg (lt_cons (lt_i _ _) (lt_cons (lt_i _ _) lt_nil))) lt_nil))) (lt_agg (lt_cons (lt_i _ _) (lt_cons (lt_i _ _) (lt_cons (lt_i _ _) (lt_cons (lt_i _ _) lt_nil))))) ?_
 rw [Tryz.ntmps60,Tryz.results60]
 have e1:=ilt hk
 have e2:=ilt hk'
 have e3:=bd_getD hk
 have e4:=bd_getD hk'
 rw [keyP_at]
 unfold keyQ
 generalize (bs.getD k Bd.o) = b1 at *
 generalize (bs.getD k' Bd.o) = b2 at *
 by_cases hc : b2.id < b1.id
 ·have d1 : (b2.id < b1.id) = True:=eq_true hc
  rw [if_pos hc]
  repeat' (first|simp only [go_sem,↓reduceIte,Nat.reduceLT,Nat.reduceEqDiff,Nat.reduceAdd,Nat.reduceLeDiff,reduceCtorEq,e1,e2,e3,e4,d1]|(refine regOk_go ?_; kernel_rfl))
  all_goals (try omega)
  all_goals (try rfl)
 ·have d1 : (b2.id < b1.id) = False:=eq_false hc
  rw [if_neg hc]
  repeat' (first|simp only [go_sem,↓reduceIte,Nat.reduceLT,Nat.reduceEqDiff,Nat.reduceAdd,Nat.reduceLeDiff,reduceCtorEq,e1,e2,e3,e4,d1]|(refine regOk_go ?_; kernel_rfl))
  all_goals (try omega)
  all_goals (try rfl)
theorem rfJ_len (acc : List P2) (k j : Nat) : (rfJ acc k j).length = acc.length + j:=by unfold rfJ; rw [List.length_append,List.length_map,List.length_range]
theorem enR_at (bs : List Bd) (k i n : Nat) : enR bs (⟨(k : Int),(i : Int)⟩,n) = enQ n (pxQ (bs.getD k Bd.o) ((bs.getD k Bd.o).fs.getD i Fx.o)):=rfl
theorem c_scene (bs : List Bd) (js : List Jt) (hw : FW bs) : PCall Tryz.prog 58 [.sl (bs.map Bd.v),.sl (js.map Jt.v)] (.agg [.sl (bs.map Bd.v),.sl (js.map Jt.v),.sl ((refs bs).map P2.v),.sl ((ents bs (refs bs)).map En.v)]):=by
 refine pcall_of hm Tryz.func58 rfl (by kernel_rfl) (by rw [Tryz.ntmps58]; exact Nat.le_of_ble_eq_true rfl) (lt_cons (lt_bds _ _) (lt_cons (lt_jts _ _) lt_nil)) (lt_agg (lt_cons (lt_bds _ _) (lt_cons (lt_jts _ _) (lt_cons (lt_p2s _ _) (lt_cons (lt_ens _ _) lt_nil))))) ?_
 rw [Tryz.ntmps58,Tryz.results58]
 have m0 : maxLen = 9223372036854775807:=rfl
 have hb:=hw.b
 repeat' (first|simp only [go_sem,↓reduceIte,Nat.reduceLT,Nat.reduceEqDiff,Nat.reduceAdd,Nat.reduceLeDiff,reduceCtorEq]|refine aext_makeMap ?_)
 refine tr_lp hm [4,5,6,14,15] [0,1,2,3,4] (fun x' : Fs bs.length=>[(16,.i x'.i)]) (fun x' : Fs bs.length=>[(7,.row 109 2 (rfK bs x'.i).length ((rfK bs x'.i).map P2.v)),(8,.row 60 5 (rfK bs x'.i).length ((ents bs (rfK bs x'.i)).map En.v)),(13,.var (.agg [.sl (bs.map Bd.v),.sl (js.map Jt.v),.ow 7 (rfK bs x'.i).length,.ow 8 (rfK bs x'.i).length])),(14,.ob (mapOb false (idM (idsK bs x'.i))))]) (fun x'=>bs.length - x'.i) (Fs.start _) ?_ ?_ ?_
 ·repeat' (first|exact tw_nil|refine tw_cons rfl ?_ ?_|exact lt_i _ _|exact Lt.pt _ _ (by decide)|exact lt_bds _ _|exact Lt.mp _ (by decide))
  all_goals (try rfl)
 ·repeat' (first|exact hw_nil|refine hw_cons (by decide) rfl bwk_rfl ?_ ?_|refine hw_cons (by decide) rfl (.inr ⟨rfl,_,_,rfl⟩) ?_ ?_|exact trivial|refine blt_row ?_|exact lt_bds _ _|exact lt_jts _ _|refine lt_agg ?_|exact lt_nil|refine lt_cons ?_ ?_|exact Lt.ow _ _ (by decide))
  all_goals (try rfl)
 ·rintro ⟨k,hk⟩
  by_cases hlt : k < bs.length
  ·have E1:=ilt hlt
   have E2:=isucc hlt (show bs.length ≤ maxLen by omega)
   have E3:=bd_getD hlt
   have HLT:=hlt
   have hRl:=rfK_len (m:=8) (fun b hb=>(hw.f b hb).1) k hk
   obtain ⟨hBf,hBv⟩:=hw.f _ (getD_mem (d:=Bd.o) hlt)
   have hmg:=mget_idM (bs.getD k Bd.o).id (idsK bs k)
   have hms:=mset_idM (bs.getD k Bd.o).id (idsK bs k)
   have hsn : ((idsK bs k).any fun m=>decide ((bs.getD k Bd.o).id = m)) = seenB bs k:=rfl
   rw [hsn] at hmg hms
   have hIn:=fun h=>rfK_in (bs:=bs) (k:=k) h
   have hOut:=fun h=>rfK_out (bs:=bs) (k:=k) h
   have iIn:=fun h=>idsK_in (bs:=bs) (k:=k) h
   have iOut:=fun h=>idsK_out (bs:=bs) (k:=k) h
   generalize hBk : bs.getD k Bd.o = B at *
   generalize rfK bs k = R at *
   cases hs : seenB bs k with
   | true=>
    rw [hs] at hmg
    have hN1:=hIn hs
    have hN2:=iIn hs
    repeat' (first|simp only [go_sem,↓reduceIte,Nat.reduceLT,Nat.reduceEqDiff,Nat.reduceAdd,Nat.reduceLeDiff,reduceCtorEq,E1,E2,E3,hmg]|refine aext_lookup (idK B.id) (idM (idsK bs k)) rfl rfl rfl rfl rfl rfl (idM_keys _) ?_)
    refine ⟨Fs.next hlt,Nat.sub_lt_sub_left hlt (Nat.lt_succ_self _),wk_go (by decide) ?_ ?_⟩
    all_goals (try simp only [show (Fs.next hlt).i = k + 1 from rfl,hN1,hN2])
    ·repeat' (first|exact tw_nil|refine tw_cons rfl ?_ ?_|exact lt_i _ _|exact Lt.pt _ _ (by decide)|exact lt_bds _ _|exact Lt.mp _ (by decide))
     all_goals (try rfl)
    ·repeat' (first|exact hw_nil|refine hw_cons (by decide) rfl bwk_rfl ?_ ?_|exact trivial|refine blt_row ?_|exact lt_i _ _|exact lt_bds _ _|exact lt_jts _ _|refine lt_agg ?_|exact lt_nil|refine lt_cons ?_ ?_|exact Lt.ow _ _ (by decide)|refine lt_map (fun _=>?_))
     all_goals (try rfl)
   | false=>
    rw [hs] at hmg
    have hN1:=hOut hs
    have hN2:=iOut hs
    have hms:=hms hs
    repeat' (first|simp only [go_sem,↓reduceIte,Nat.reduceLT,Nat.reduceEqDiff,Nat.reduceAdd,Nat.reduceLeDiff,reduceCtorEq,E1,E3,hmg]|refine aext_lookup (idK B.id) (idM (idsK bs k)) rfl rfl rfl rfl rfl rfl (idM_keys _) ?_|refine aext_mapUpdate (idK B.id) (idM (idsK bs k)) rfl rfl rfl rfl rfl rfl rfl rfl (idM_keys _) ?_)
    refine tr_lp hm [4,5,6,7,8,14,15,16,30] [0,1,2,3,4,14,15,16] (fun x' : Fs B.fs.length=>[(31,.i x'.i)]) (fun x' : Fs B.fs.length=>[(7,.row 109 2 (rfJ R k x'.i).length ((rfJ R k x'.i).map P2.v)),(8,.row 60 5 (rfJ R k x'.i).length ((ents bs (rfJ R k x'.i)).map En.v)),(13,.var (.agg [.sl (bs.map Bd.v),.sl (js.map Jt.v),.ow 7 (rfJ R k x'.i).length,.ow 8 (rfJ R k x'.i).length]))]) (fun x'=>B.fs.length - x'.i) (Fs.start _) ?_ ?_ ?_
    ·repeat' (first|exact tw_nil|refine tw_cons rfl ?_ ?_|exact lt_i _ _|exact Lt.pt _ _ (by decide)|exact lt_bds _ _|exact Lt.mp _ (by decide))
     all_goals (try simp only [show (Fs.start B.fs.length).i = 0 from rfl,rfJ_zero])
     all_goals (try rfl)
    ·repeat' (first|exact hw_nil|refine hw_cons (by decide) rfl bwk_rfl ?_ ?_|refine hw_cons (by decide) ?_ bwk_rfl ?_ ?_|exact trivial|refine blt_row ?_|exact lt_i _ _|exact lt_b _ _|exact lt_fxs _ _|exact lt_bds _ _|exact lt_jts _ _|refine lt_agg ?_|exact lt_nil|refine lt_cons ?_ ?_|exact Lt.ow _ _ (by decide)|refine lt_map (fun _=>?_))
     all_goals (try simp only [show (Fs.start B.fs.length).i = 0 from rfl,rfJ_zero])
     all_goals (try rfl)
    ·rintro ⟨j,hj⟩
     by_cases hlj : j < B.fs.length
     ·have e1:=ilt hlj
      have e2:=isucc hlj (show B.fs.length ≤ maxLen by omega)
      have hv:=hBv _ (getD_mem (d:=Fx.o) hlj)
      have j1:=c_proxy B j hlj (by omega)
      have hF:=rfJ_next R k j
      have hFl:=rfJ_len R k j
      have hen:=ents_snoc bs (rfJ R k j) ⟨(k : Int),(j : Int)⟩
      have her:=enR_at bs k j (rfJ R k j).length
      rw [hBk] at her
      have hF1 : (rfJ R k (j + 1)).length = (rfJ R k j).length + 1:=by rw [hF,List.length_append]; rfl
      have hF2 : (rfJ R k (j + 1)).map P2.v = (rfJ R k j).map P2.v ++ [.agg [.i (k : Int),.i (j : Int)]]:=by rw [hF,List.map_append]; rfl
      have hF3 : (ents bs (rfJ R k (j + 1))).map En.v = (ents bs (rfJ R k j)).map En.v ++ [.agg [.i ((rfJ R k j).length : Int),.i (pxQ B (B.fs.getD j Fx.o)).a,.i (pxQ B (B.fs.getD j Fx.o)).b,.i (pxQ B (B.fs.getD j Fx.o)).c,.i (pxQ B (B.fs.getD j Fx.o)).d]]:=by rw [hF,hen,List.map_append,her]; rfl
      have hel:=ents_len bs (rfJ R k j)
      have j2 : HasC Tryz.prog 70 [.agg [.i B.id,.i B.kd,.i B.px,.i B.py,.i B.an,.i B.vx,.i B.vy,.i B.av,.i B.gx,.i B.gy,.i B.tq,.i B.ld,.i B.ad,.i B.gs,.b B.bul,.b B.fr,.b B.ns,.b B.asl,.i B.idl,.sl (B.fs.map Fx.v)],.i (j : Int)] (.agg [.i B.id,.i (j : Int),.i (pxQ B (B.fs.getD j Fx.o)).a,.i (pxQ B (B.fs.getD j Fx.o)).b,.i (pxQ B (B.fs.getD j Fx.o)).c,.i (pxQ B (B.fs.getD j Fx.o)).d]):=⟨j1⟩
      generalize pxQ B (B.fs.getD j Fx.o) = q at *
      generalize ents bs (rfJ R k j) = E at *
      generalize rfJ R k j = R2 at *
      repeat' (first|simp only [go_sem,↓reduceIte,Nat.reduceLT,Nat.reduceEqDiff,Nat.reduceAdd,Nat.reduceLeDiff,Nat.reduceMul,reduceCtorEq,e1,e2]|refine cst_go ?_|(refine regOk_go ?_; kernel_rfl)|refine And.intro ?_ ?_)
      all_goals (try omega)
      all_goals (try exact ens_len _)
      all_goals (try exact ens_one _)
      all_goals (try exact p2s_len _)
      all_goals (try exact p2s_one _)
      refine ⟨Fs.next hlj,Nat.sub_lt_sub_left hlj (Nat.lt_succ_self _),wk_go (by decide) ?_ ?_⟩
      all_goals (try simp only [show (Fs.next hlj).i = j + 1 from rfl,hF1,hF2,hF3])
      ·repeat' (first|exact tw_nil|refine tw_cons rfl ?_ ?_|exact lt_i _ _|exact Lt.pt _ _ (by decide)|exact lt_bds _ _|exact Lt.mp _ (by decide))
       all_goals (try rfl)
      ·repeat' (first|exact hw_nil|refine hw_cons (by decide) rfl bwk_rfl ?_ ?_|exact trivial|refine blt_row ?_|exact lt_i _ _|exact lt_b _ _|exact lt_fxs _ _|exact lt_bds _ _|exact lt_jts _ _|refine lt_agg ?_|exact lt_nil|refine lt_cons ?_ ?_|exact Lt.ow _ _ (by decide)|refine lt_app ?_ ?_|refine lt_map (fun _=>?_))
       all_goals (try rfl)
     ·have f1:=inlt hlj
      have hjj : j = B.fs.length:=by omega
      subst hjj
      repeat' (first|simp only [go_sem,↓reduceIte,Nat.reduceLT,Nat.reduceEqDiff,Nat.reduceAdd,reduceCtorEq,f1,E2])
      refine ⟨Fs.next HLT,Nat.sub_lt_sub_left HLT (Nat.lt_succ_self _),wk_go (by decide) ?_ ?_⟩
      all_goals (try simp only [show (Fs.next HLT).i = k + 1 from rfl,hN1,hN2])
      ·repeat' (first|exact tw_nil|refine tw_cons rfl ?_ ?_|exact lt_i _ _|exact Lt.pt _ _ (by decide)|exact lt_bds _ _|exact Lt.mp _ (by decide))
       all_goals (try rfl)
      ·repeat' (first|exact hw_nil|refine hw_cons (by decide) rfl bwk_rfl ?_ ?_|refine hw_cons (by decide) ?_ bwk_rfl ?_ ?_|exact trivial|refine blt_row ?_|exact lt_i _ _|exact lt_bds _ _|exact lt_jts _ _|refine lt_agg ?_|exact lt_nil|refine lt_cons ?_ ?_|exact Lt.ow _ _ (by decide)|refine lt_map (fun _=>?_))
       all_goals (try rfl)
       all_goals (try exact congrArg (fun q=>some (ABox.ob (mapOb false q))) hms)
  ·have f1:=inlt hlt
   have hii : k = bs.length:=by omega
   subst hii
   have hR : rfK bs bs.length = refs bs:=rfl
   repeat' (first|simp only [go_sem,↓reduceIte,Nat.reduceLT,Nat.reduceEqDiff,Nat.reduceAdd,Nat.reduceLeDiff,reduceCtorEq,f1,hR])
   all_goals (try rfl)
end Go.Proofs.YtplmagdbnbijlaaGreat
