/-
  Valid fixtures and bodies. Conditions: none.
-/
import Derived.Test.YtplmagdbnbijlaaGreatCB
import Derived.Test.YtplmagdbnbijlaaGreatAlD
import Derived.Test.YtplmagdbnbijlaaGreatMD
import Derived.Outline
import Derived.Test.YtplmagdbnbijlaaGreatAlF
import Derived.Test.YtplmagdbnbijlaaGreatMC
set_option maxHeartbeats 4000000
set_option maxRecDepth 20000
set_option linter.all false
namespace Go.Proofs.YtplmagdbnbijlaaGreat
open Go.RowKit Go.AL Go.Carom
attribute [go_sem] Bool.not_eq_true' imp_self decide_true decide_false acond_tt acond_ff ne_eq true_or or_true false_or or_false List.range_zero List.range_succ List.replicate_succ List.replicate_zero List.flatten_cons List.flatten_nil List.all_cons List.all_nil List.append_assoc forall_and icast inn List.length_map true_and and_true Bool.true_or Bool.or_true Bool.false_and Bool.and_false
theorem c_bwithin (x lo hi : Int) : PCall Tryz.prog 326 [.i x,.i lo,.i hi] (.b (inR x lo hi)):=by
 refine pcall_of hm Tryz.func326 rfl (by kernel_rfl) (by rw [Tryz.ntmps326]; exact Nat.le_of_ble_eq_true rfl) (lt_cons (lt_i _ _) (lt_cons (lt_i _ _) (lt_cons (lt_i _ _) lt_nil))) (lt_b _ _) ?_
 rw [Tryz.ntmps326,Tryz.results326]
 repeat' (first|simp only [go_sem,↓reduceIte,Nat.reduceLT,Nat.reduceEqDiff,Nat.reduceAdd,reduceCtorEq])
 all_goals (try rfl)
instance (x lo hi : Int) : HasC Tryz.prog 326 [.i x,.i lo,.i hi] (.b (inR x lo hi)):=⟨c_bwithin x lo hi⟩
theorem c_r23in (x lo hi : Int) : PCall Tryz.prog 282 [.i x,.i lo,.i hi] (.b (inR x lo hi)):=by
 refine pcall_of hm Tryz.func282 rfl (by kernel_rfl) (by rw [Tryz.ntmps282]; exact Nat.le_of_ble_eq_true rfl) (lt_cons (lt_i _ _) (lt_cons (lt_i _ _) (lt_cons (lt_i _ _) lt_nil))) (lt_b _ _) ?_
 rw [Tryz.ntmps282,Tryz.results282]
 repeat' (first|simp only [go_sem,↓reduceIte,Nat.reduceLT,Nat.reduceEqDiff,Nat.reduceAdd,reduceCtorEq])
 all_goals (try rfl)
instance (x lo hi : Int) : HasC Tryz.prog 282 [.i x,.i lo,.i hi] (.b (inR x lo hi)):=⟨c_r23in x lo hi⟩
theorem c_win (x lo hi : Int) : PCall Tryz.prog 104 [.i x,.i lo,.i hi] (.b (inR x lo hi)):=by
 refine pcall_of hm Tryz.func104 rfl (by kernel_rfl) (by rw [Tryz.ntmps104]; exact Nat.le_of_ble_eq_true rfl) (lt_cons (lt_i _ _) (lt_cons (lt_i _ _) (lt_cons (lt_i _ _) lt_nil))) (lt_b _ _) ?_
 rw [Tryz.ntmps104,Tryz.results104]
 repeat' (first|simp only [go_sem,↓reduceIte,Nat.reduceLT,Nat.reduceEqDiff,Nat.reduceAdd,reduceCtorEq])
 all_goals (try rfl)
instance (x lo hi : Int) : HasC Tryz.prog 104 [.i x,.i lo,.i hi] (.b (inR x lo hi)):=⟨c_win x lo hi⟩
theorem c_r25in (x lo hi : Int) : PCall Tryz.prog 80 [.i x,.i lo,.i hi] (.b (inR x lo hi)):=by
 refine pcall_of hm Tryz.func80 rfl (by kernel_rfl) (by rw [Tryz.ntmps80]; exact Nat.le_of_ble_eq_true rfl) (lt_cons (lt_i _ _) (lt_cons (lt_i _ _) (lt_cons (lt_i _ _) lt_nil))) (lt_b _ _) ?_
 rw [Tryz.ntmps80,Tryz.results80]
 repeat' (first|simp only [go_sem,↓reduceIte,Nat.reduceLT,Nat.reduceEqDiff,Nat.reduceAdd,reduceCtorEq])
 all_goals (try rfl)
instance (x lo hi : Int) : HasC Tryz.prog 80 [.i x,.i lo,.i hi] (.b (inR x lo hi)):=⟨c_r25in x lo hi⟩
theorem c_jin (x lo hi : Int) : PCall Tryz.prog 330 [.i x,.i lo,.i hi] (.b (inR x lo hi)):=by
 refine pcall_of hm Tryz.func330 rfl (by kernel_rfl) (by rw [Tryz.ntmps330]; exact Nat.le_of_ble_eq_true rfl) (lt_cons (lt_i _ _) (lt_cons (lt_i _ _) (lt_cons (lt_i _ _) lt_nil))) (lt_b _ _) ?_
 rw [Tryz.ntmps330,Tryz.results330]
 repeat' (first|simp only [go_sem,↓reduceIte,Nat.reduceLT,Nat.reduceEqDiff,Nat.reduceAdd,reduceCtorEq])
 all_goals (try rfl)
instance (x lo hi : Int) : HasC Tryz.prog 330 [.i x,.i lo,.i hi] (.b (inR x lo hi)):=⟨c_jin x lo hi⟩
theorem c_r24in (x lo hi : Int) : PCall Tryz.prog 200 [.i x,.i lo,.i hi] (.b (inR x lo hi)):=by
 refine pcall_of hm Tryz.func200 rfl (by kernel_rfl) (by rw [Tryz.ntmps200]; exact Nat.le_of_ble_eq_true rfl) (lt_cons (lt_i _ _) (lt_cons (lt_i _ _) (lt_cons (lt_i _ _) lt_nil))) (lt_b _ _) ?_
 rw [Tryz.ntmps200,Tryz.results200]
 repeat' (first|simp only [go_sem,↓reduceIte,Nat.reduceLT,Nat.reduceEqDiff,Nat.reduceAdd,reduceCtorEq])
 all_goals (try rfl)
instance (x lo hi : Int) : HasC Tryz.prog 200 [.i x,.i lo,.i hi] (.b (inR x lo hi)):=⟨c_r24in x lo hi⟩
theorem c_bbd (x y l : Int) : PCall Tryz.prog 325 [.agg [.i x,.i y],.i l] (.b (inR x (IntKind.i64.wrap (0 - l)) l && inR y (IntKind.i64.wrap (0 - l)) l)):=by
 refine pcall_of hm Tryz.func325 rfl (by kernel_rfl) (by rw [Tryz.ntmps325]; exact Nat.le_of_ble_eq_true rfl) (lt_cons (lt_agg (lt_cons (lt_i _ _) (lt_cons (lt_i _ _) lt_nil))) (lt_cons (lt_i _ _) lt_nil)) (lt_b _ _) ?_
 rw [Tryz.ntmps325,Tryz.results325]
 repeat' (first|simp only [go_sem,↓reduceIte,Nat.reduceLT,Nat.reduceEqDiff,Nat.reduceAdd,Nat.reduceLeDiff,reduceCtorEq]|refine cst_go ?_|refine gcst_go ?_)
 all_goals (try rfl)
instance (x y l : Int) : HasC Tryz.prog 325 [.agg [.i x,.i y],.i l] (.b (inR x (IntKind.i64.wrap (0 - l)) l && inR y (IntKind.i64.wrap (0 - l)) l)):=⟨c_bbd x y l⟩
theorem c_vfx (f : Fx) (hf : f.vs.length ≤ maxLen) : PCall Tryz.prog 250 [.agg [.i f.k,.i f.r,.sl (f.vs.map ev),.i f.den,.i f.fri,.i f.res,.b f.sen,.i f.cat,.i f.msk,.i f.grp]] (.i (fxval f)):=by
 refine pcall_of hm Tryz.func250 rfl (by kernel_rfl) (by rw [Tryz.ntmps250]; exact Nat.le_of_ble_eq_true rfl) (lt_cons (lt_agg (lt_cons (lt_i _ _) (lt_cons (lt_i _ _) (lt_cons (lt_vs _ _) (lt_cons (lt_i _ _) (lt_cons (lt_i _ _) (lt_cons (lt_i _ _) (lt_cons (lt_b _ _) (lt_cons (lt_i _ _) (lt_cons (lt_i _ _) (lt_cons (lt_i _ _) lt_nil))))))))))) lt_nil) (lt_i _ _) ?_
 rw [Tryz.ntmps250,Tryz.results250]
 have i1 : HasC Tryz.prog 135 [.agg [.i f.k,.i f.r,.sl (f.vs.map ev)]] (.i (sval f.k f.r f.vs)):=⟨c_sval _ _ _ hf⟩
 by_cases h0 : sval f.k f.r f.vs = 0
 ·have d0 : (sval f.k f.r f.vs = 0) = True:=eq_true h0
  cases hR : fxR f with
  | true=>
   have hq : fxval f = 0:=by unfold fxval; rw [if_pos h0,hR]; rfl
   rw [hq]; unfold fxR at hR; simp only [Bool.and_eq_true] at hR
   obtain ⟨⟨⟨e1,e2⟩,e3⟩,⟨e4,e5⟩,e6⟩:=hR
   repeat' (first|simp only [go_sem,↓reduceIte,Nat.reduceLT,Nat.reduceEqDiff,Nat.reduceAdd,Nat.reduceLeDiff,reduceCtorEq,Int.reduceNeg,d0,e1,e2,e3,e4,e5,e6]|refine cst_go ?_|refine gcst_go ?_)
   all_goals (try rfl)
  | false=>
   have hq : fxval f = 6:=by unfold fxval; rw [if_pos h0,hR]; rfl
   rw [hq]; unfold fxR at hR
   repeat' (first|simp only [go_sem,↓reduceIte,Nat.reduceLT,Nat.reduceEqDiff,Nat.reduceAdd,Nat.reduceLeDiff,reduceCtorEq,Int.reduceNeg,d0]|refine cst_go ?_|refine gcst_go ?_|refine acond_split (fun _=>?_) (fun _=>?_))
   all_goals (try rfl)
   all_goals (rename_i hc; exfalso; revert hc hR; cases inR f.den 0 262144 <;> cases inR f.fri 0 131072 <;> cases inR f.res 0 65536 <;> cases inR f.cat 0 65535 <;> cases inR f.msk 0 65535 <;> cases inR f.grp (-32) 32 <;> decide)
 ·have d0 : (sval f.k f.r f.vs = 0) = False:=eq_false h0
  have hq : fxval f = sval f.k f.r f.vs:=by unfold fxval; rw [if_neg h0]
  rw [hq]
  repeat' (first|simp only [go_sem,↓reduceIte,Nat.reduceLT,Nat.reduceEqDiff,Nat.reduceAdd,Nat.reduceLeDiff,reduceCtorEq,Int.reduceNeg,d0]|refine cst_go ?_)
  all_goals (try rfl)
theorem c_rvfx (f : Fx) (hf : f.vs.length ≤ maxLen) : PCall Tryz.prog 198 [.agg [.i f.k,.i f.r,.sl (f.vs.map ev),.i f.den,.i f.fri,.i f.res,.b f.sen,.i f.cat,.i f.msk,.i f.grp]] (.i (fxval f)):=by
 refine pcall_of hm Tryz.func198 rfl (by kernel_rfl) (by rw [Tryz.ntmps198]; exact Nat.le_of_ble_eq_true rfl) (lt_cons (lt_agg (lt_cons (lt_i _ _) (lt_cons (lt_i _ _) (lt_cons (lt_vs _ _) (lt_cons (lt_i _ _) (lt_cons (lt_i _ _) (lt_cons (lt_i _ _) (lt_cons (lt_b _ _) (lt_cons (lt_i _ _) (lt_cons (lt_i _ _) (lt_cons (lt_i _ _) lt_nil))))))))))) lt_nil) (lt_i _ _) ?_
 rw [Tryz.ntmps198,Tryz.results198]
 have i1 : HasC Tryz.prog 151 [.agg [.i f.k,.i f.r,.sl (f.vs.map ev)]] (.i (sval f.k f.r f.vs)):=⟨c_rval _ _ _ hf⟩
 by_cases h0 : sval f.k f.r f.vs = 0
 ·have d0 : (sval f.k f.r f.vs = 0) = True:=eq_true h0
  cases hR : fxR f with
  | true=>
   have hq : fxval f = 0:=by unfold fxval; rw [if_pos h0,hR]; rfl
   rw [hq]; unfold fxR at hR; simp only [Bool.and_eq_true] at hR
   obtain ⟨⟨⟨e1,e2⟩,e3⟩,⟨e4,e5⟩,e6⟩:=hR
   repeat' (first|simp only [go_sem,↓reduceIte,Nat.reduceLT,Nat.reduceEqDiff,Nat.reduceAdd,Nat.reduceLeDiff,reduceCtorEq,Int.reduceNeg,d0,e1,e2,e3,e4,e5,e6]|refine cst_go ?_|refine gcst_go ?_)
   all_goals (try rfl)
  | false=>
   have hq : fxval f = 6:=by unfold fxval; rw [if_pos h0,hR]; rfl
   rw [hq]; unfold fxR at hR
   repeat' (first|simp only [go_sem,↓reduceIte,Nat.reduceLT,Nat.reduceEqDiff,Nat.reduceAdd,Nat.reduceLeDiff,reduceCtorEq,Int.reduceNeg,d0]|refine cst_go ?_|refine gcst_go ?_|refine acond_split (fun _=>?_) (fun _=>?_))
   all_goals (try rfl)
   all_goals (rename_i hc; exfalso; revert hc hR; cases inR f.den 0 262144 <;> cases inR f.fri 0 131072 <;> cases inR f.res 0 65536 <;> cases inR f.cat 0 65535 <;> cases inR f.msk 0 65535 <;> cases inR f.grp (-32) 32 <;> decide)
 ·have d0 : (sval f.k f.r f.vs = 0) = False:=eq_false h0
  have hq : fxval f = sval f.k f.r f.vs:=by unfold fxval; rw [if_neg h0]
  rw [hq]
  repeat' (first|simp only [go_sem,↓reduceIte,Nat.reduceLT,Nat.reduceEqDiff,Nat.reduceAdd,Nat.reduceLeDiff,reduceCtorEq,Int.reduceNeg,d0]|refine cst_go ?_)
  all_goals (try rfl)
theorem c_bdR (b : Bd) : PCall Tryz.prog 249 [.agg [.i b.id,.i b.kd,.i b.px,.i b.py,.i b.an,.i b.vx,.i b.vy,.i b.av,.i b.gx,.i b.gy,.i b.tq,.i b.ld,.i b.ad,.i b.gs,.b b.bul,.b b.fr,.b b.ns,.b b.asl,.i b.idl,.sl (b.fs.map Fx.v)]] (.b (bdR b)):=by
 refine pcall_of hm Tryz.func249 rfl (by kernel_rfl) (by rw [Tryz.ntmps249]; exact Nat.le_of_ble_eq_true rfl) (lt_cons (lt_agg (lt_cons (lt_i _ _) (lt_cons (lt_i _ _) (lt_cons (lt_i _ _) (lt_cons (lt_i _ _) (lt_cons (lt_i _ _) (lt_cons (lt_i _ _) (lt_cons (lt_i _ _) (lt_cons (lt_i _ _) (lt_cons (lt_i _ _) (lt_cons (lt_i _ _) (lt_cons (lt_i _ _) (lt_cons (lt_i _ _) (lt_cons (lt_i _ _) (lt_cons (lt_i _ _) (lt_cons (lt_b _ _) (lt_cons (lt_b _ _) (lt_cons (lt_b _ _) (lt_cons (lt_b _ _) (lt_cons (lt_i _ _) (lt_cons (lt_fxs _ _) lt_nil))))))))))))))))))))) lt_nil) (lt_b _ _) ?_
 rw [Tryz.ntmps249,Tryz.results249]
 have k0 : IntKind.i64.wrap (-16777216) = -16777216:=by kernel_rfl
 have k1 : IntKind.i64.wrap (-536870911) = -536870911:=by kernel_rfl
 have z0 : (0 : Int) - 16777216 = -16777216:=rfl
 have z1 : (0 : Int) - 536870911 = -536870911:=rfl
 repeat' (first|simp only [go_sem,↓reduceIte,Nat.reduceLT,Nat.reduceEqDiff,Nat.reduceAdd,Nat.reduceLeDiff,reduceCtorEq,Int.reduceNeg,k0,k1,z0,z1]|refine cst_go ?_|refine gcst_go ?_)
 all_goals (try rfl)
theorem c_bmv (b : Bd) : PCall Tryz.prog 328 [.agg [.i b.id,.i b.kd,.i b.px,.i b.py,.i b.an,.i b.vx,.i b.vy,.i b.av,.i b.gx,.i b.gy,.i b.tq,.i b.ld,.i b.ad,.i b.gs,.b b.bul,.b b.fr,.b b.ns,.b b.asl,.i b.idl,.sl (b.fs.map Fx.v)]] (.b (bdMv b)):=by
 refine pcall_of hm Tryz.func328 rfl (by kernel_rfl) (by rw [Tryz.ntmps328]; exact Nat.le_of_ble_eq_true rfl) (lt_cons (lt_agg (lt_cons (lt_i _ _) (lt_cons (lt_i _ _) (lt_cons (lt_i _ _) (lt_cons (lt_i _ _) (lt_cons (lt_i _ _) (lt_cons (lt_i _ _) (lt_cons (lt_i _ _) (lt_cons (lt_i _ _) (lt_cons (lt_i _ _) (lt_cons (lt_i _ _) (lt_cons (lt_i _ _) (lt_cons (lt_i _ _) (lt_cons (lt_i _ _) (lt_cons (lt_i _ _) (lt_cons (lt_b _ _) (lt_cons (lt_b _ _) (lt_cons (lt_b _ _) (lt_cons (lt_b _ _) (lt_cons (lt_i _ _) (lt_cons (lt_fxs _ _) lt_nil))))))))))))))))))))) lt_nil) (lt_b _ _) ?_
 rw [Tryz.ntmps328,Tryz.results328]
 repeat' (first|simp only [go_sem,↓reduceIte,Nat.reduceLT,Nat.reduceEqDiff,Nat.reduceAdd,Nat.reduceLeDiff,reduceCtorEq])
 all_goals (refine leaf_b ?_; unfold bdMv; simp)
theorem c_bcons (b : Bd) : PCall Tryz.prog 251 [.agg [.i b.id,.i b.kd,.i b.px,.i b.py,.i b.an,.i b.vx,.i b.vy,.i b.av,.i b.gx,.i b.gy,.i b.tq,.i b.ld,.i b.ad,.i b.gs,.b b.bul,.b b.fr,.b b.ns,.b b.asl,.i b.idl,.sl (b.fs.map Fx.v)]] (.b (bdC b)):=by
 refine pcall_of hm Tryz.func251 rfl (by kernel_rfl) (by rw [Tryz.ntmps251]; exact Nat.le_of_ble_eq_true rfl) (lt_cons (lt_agg (lt_cons (lt_i _ _) (lt_cons (lt_i _ _) (lt_cons (lt_i _ _) (lt_cons (lt_i _ _) (lt_cons (lt_i _ _) (lt_cons (lt_i _ _) (lt_cons (lt_i _ _) (lt_cons (lt_i _ _) (lt_cons (lt_i _ _) (lt_cons (lt_i _ _) (lt_cons (lt_i _ _) (lt_cons (lt_i _ _) (lt_cons (lt_i _ _) (lt_cons (lt_i _ _) (lt_cons (lt_b _ _) (lt_cons (lt_b _ _) (lt_cons (lt_b _ _) (lt_cons (lt_b _ _) (lt_cons (lt_i _ _) (lt_cons (lt_fxs _ _) lt_nil))))))))))))))))))))) lt_nil) (lt_b _ _) ?_
 rw [Tryz.ntmps251,Tryz.results251]
 have i1 : HasC Tryz.prog 328 [.agg [.i b.id,.i b.kd,.i b.px,.i b.py,.i b.an,.i b.vx,.i b.vy,.i b.av,.i b.gx,.i b.gy,.i b.tq,.i b.ld,.i b.ad,.i b.gs,.b b.bul,.b b.fr,.b b.ns,.b b.asl,.i b.idl,.sl (b.fs.map Fx.v)]] (.b (bdMv b)):=⟨c_bmv b⟩
 have hfo : bdFo b = (!(decide (b.gx = 0) && decide (b.gy = 0)) || !decide (b.tq = 0)):=rfl
 have hcx : bdC b = (!(decide (b.kd = 1) && (bdMv b || bdFo b)) && !(!decide (b.kd = 3) && (b.asl || b.bul)) && (!b.asl || !bdMv b)):=rfl
 repeat' (first|simp only [go_sem,↓reduceIte,Nat.reduceLT,Nat.reduceEqDiff,Nat.reduceAdd,Nat.reduceLeDiff,reduceCtorEq,Bool.and_true,← hfo]|refine gcst_go ?_|refine acond_split (fun _=>?_) (fun _=>?_)|refine And.intro ?_ ?_|(intro (_ : _ = _)))
 all_goals (try (rename_i h1 h2; rw [h1,h2]; rfl))
 all_goals (try (rename_i h1 h2 h3; rw [h1,h2,h3]; rfl))
 all_goals (try (rename_i h1 h2 h3; rw [h2,h3]; rfl))
 all_goals first
  | (rename_i h1 h2; refine leaf_b ?_; rw [hcx,h1,h2]; simp; done)
  | (rename_i h1; refine leaf_b ?_; rw [hcx,h1]; simp; done)
theorem c_rbdR (b : Bd) : PCall Tryz.prog 197 [.agg [.i b.id,.i b.kd,.i b.px,.i b.py,.i b.an,.i b.vx,.i b.vy,.i b.av,.i b.gx,.i b.gy,.i b.tq,.i b.ld,.i b.ad,.i b.gs,.b b.bul,.b b.fr,.b b.ns,.b b.asl,.i b.idl,.sl (b.fs.map Fx.v)]] (.b (bdR b)):=by
 refine pcall_of hm Tryz.func197 rfl (by kernel_rfl) (by rw [Tryz.ntmps197]; exact Nat.le_of_ble_eq_true rfl) (lt_cons (lt_agg (lt_cons (lt_i _ _) (lt_cons (lt_i _ _) (lt_cons (lt_i _ _) (lt_cons (lt_i _ _) (lt_cons (lt_i _ _) (lt_cons (lt_i _ _) (lt_cons (lt_i _ _) (lt_cons (lt_i _ _) (lt_cons (lt_i _ _) (lt_cons (lt_i _ _) (lt_cons (lt_i _ _) (lt_cons (lt_i _ _) (lt_cons (lt_i _ _) (lt_cons (lt_i _ _) (lt_cons (lt_b _ _) (lt_cons (lt_b _ _) (lt_cons (lt_b _ _) (lt_cons (lt_b _ _) (lt_cons (lt_i _ _) (lt_cons (lt_fxs _ _) lt_nil))))))))))))))))))))) lt_nil) (lt_b _ _) ?_
 rw [Tryz.ntmps197,Tryz.results197]
 have e1 : (!inR b.id 1 1099511627776 || !tvalid b.px b.py b.an || !inR b.vx (-16777216) 16777216 || !inR b.vy (-16777216) 16777216 || !inR b.av (-4194304) 4194304) = !bdR1 b:=by unfold bdR1; simp only [Bool.not_and]
 have e2 : (!inR b.gx (-536870911) 536870911 || !inR b.gy (-536870911) 536870911 || !inR b.tq (-536870911) 536870911) = !bdR2 b:=by unfold bdR2; simp only [Bool.not_and]
 have e3 : (inR b.ld 0 65536 && inR b.ad 0 65536 && inR b.gs (-262144) 262144 && inR b.idl 0 1048576) = bdR3 b:=rfl
 rw [bdR_eq]
 repeat' (first|simp only [go_sem,↓reduceIte,Nat.reduceLT,Nat.reduceEqDiff,Nat.reduceAdd,Nat.reduceLeDiff,reduceCtorEq,Int.reduceNeg,e1,e2,e3]|refine cst_go ?_|refine gcst_go ?_|refine acond_split (fun _=>?_) (fun _=>?_))
 all_goals (try rfl)
 all_goals first
  | (rename_i h1 h2; rw [show bdR1 b = true by simpa using h1,show bdR2 b = true by simpa using h2]; rfl)
  | (rename_i h1 h2; rw [show bdR2 b = false by simpa using h2]; simp)
  | (rename_i h1; rw [show bdR1 b = false by simpa using h1]; simp)
theorem c_bval (b : Bd) (hf : b.fs.length ≤ maxLen) (hv : ∀ f ∈ b.fs,f.vs.length ≤ maxLen) : PCall Tryz.prog 158 [.agg [.i b.id,.i b.kd,.i b.px,.i b.py,.i b.an,.i b.vx,.i b.vy,.i b.av,.i b.gx,.i b.gy,.i b.tq,.i b.ld,.i b.ad,.i b.gs,.b b.bul,.b b.fr,.b b.ns,.b b.asl,.i b.idl,.sl (b.fs.map Fx.v)]] (.i (bval b)):=by
 refine pcall_of hm Tryz.func158 rfl (by kernel_rfl) (by rw [Tryz.ntmps158]; exact Nat.le_of_ble_eq_true rfl) (lt_cons (lt_agg (lt_cons (lt_i _ _) (lt_cons (lt_i _ _) (lt_cons (lt_i _ _) (lt_cons (lt_i _ _) (lt_cons (lt_i _ _) (lt_cons (lt_i _ _) (lt_cons (lt_i _ _) (lt_cons (lt_i _ _) (lt_cons (lt_i _ _) (lt_cons (lt_i _ _) (lt_cons (lt_i _ _) (lt_cons (lt_i _ _) (lt_cons (lt_i _ _) (lt_cons (lt_i _ _) (lt_cons (lt_b _ _) (lt_cons (lt_b _ _) (lt_cons (lt_b _ _) (lt_cons (lt_b _ _) (lt_cons (lt_i _ _) (lt_cons (lt_fxs _ _) lt_nil))))))))))))))))))))) lt_nil) (lt_i _ _) ?_
 rw [Tryz.ntmps158,Tryz.results158]
 have i1 : HasC Tryz.prog 249 [.agg [.i b.id,.i b.kd,.i b.px,.i b.py,.i b.an,.i b.vx,.i b.vy,.i b.av,.i b.gx,.i b.gy,.i b.tq,.i b.ld,.i b.ad,.i b.gs,.b b.bul,.b b.fr,.b b.ns,.b b.asl,.i b.idl,.sl (b.fs.map Fx.v)]] (.b (bdR b)):=⟨c_bdR b⟩
 have i2 : HasC Tryz.prog 251 [.agg [.i b.id,.i b.kd,.i b.px,.i b.py,.i b.an,.i b.vx,.i b.vy,.i b.av,.i b.gx,.i b.gy,.i b.tq,.i b.ld,.i b.ad,.i b.gs,.b b.bul,.b b.fr,.b b.ns,.b b.asl,.i b.idl,.sl (b.fs.map Fx.v)]] (.b (bdC b)):=⟨c_bcons b⟩
 have e1 : (!decide (b.kd = 1) && !decide (b.kd = 2) && !decide (b.kd = 3)) = !bdK b:=by unfold bdK; simp only [Bool.not_or]
 cases hK : bdK b with
 | false=>
  rw [bval_kind hK]
  repeat' (first|simp only [go_sem,↓reduceIte,Nat.reduceLT,Nat.reduceEqDiff,Nat.reduceAdd,Nat.reduceLeDiff,reduceCtorEq,e1,hK])
  all_goals (try rfl)
 | true=>
  cases hR : bdR b with
  | false=>
   rw [bval_range hK hR]
   repeat' (first|simp only [go_sem,↓reduceIte,Nat.reduceLT,Nat.reduceEqDiff,Nat.reduceAdd,Nat.reduceLeDiff,reduceCtorEq,e1,hK,hR]|refine cst_go ?_)
   all_goals (try rfl)
  | true=>
   by_cases hC : 4 < b.fs.length
   ·rw [bval_count hK hR hC]
    have d4 : ((4 : Int) < (b.fs.length : Int)) = True:=eq_true (by omega)
    repeat' (first|simp only [go_sem,↓reduceIte,Nat.reduceLT,Nat.reduceEqDiff,Nat.reduceAdd,Nat.reduceLeDiff,reduceCtorEq,e1,hK,hR,d4]|refine cst_go ?_)
    all_goals (try rfl)
   ·have d4 : ((4 : Int) < (b.fs.length : Int)) = False:=eq_false (by omega)
    repeat' (first|simp only [go_sem,↓reduceIte,Nat.reduceLT,Nat.reduceEqDiff,Nat.reduceAdd,Nat.reduceLeDiff,reduceCtorEq,e1,hK,hR,d4]|refine cst_go ?_)
    refine tr_lp hm [1,26,27] [0] (fun x' : LS b.fs.length (fxOk b.fs)=>[(28,.i x'.i)]) (fun x' : LS b.fs.length (fxOk b.fs)=>[]) (fun x'=>b.fs.length - x'.i) (LS.start _ _) ?_ ?_ ?_
    ·repeat' (first|exact tw_nil|refine tw_cons rfl ?_ ?_|exact lt_i _ _|exact Lt.pt _ _ (by decide)|exact lt_fxs _ _)
    ·repeat' (first|exact hw_nil|refine hw_cons (by decide) rfl bwk_rfl ?_ ?_|exact lt_i _ _|exact lt_b _ _|exact lt_fxs _ _|refine lt_agg ?_|exact lt_nil|refine lt_cons ?_ ?_)
    ·rintro ⟨i,hi,hh⟩
     by_cases hlt : i < b.fs.length
     ·have e2:=ilt hlt
      have e5:=isucc hlt hf
      have e3:=fx_getD hlt
      have hq:=hv _ (getD_mem (d:=Fx.o) hlt)
      have j1 : HasC Tryz.prog 250 [.agg [.i (b.fs.getD i Fx.o).k,.i (b.fs.getD i Fx.o).r,.sl ((b.fs.getD i Fx.o).vs.map ev),.i (b.fs.getD i Fx.o).den,.i (b.fs.getD i Fx.o).fri,.i (b.fs.getD i Fx.o).res,.b (b.fs.getD i Fx.o).sen,.i (b.fs.getD i Fx.o).cat,.i (b.fs.getD i Fx.o).msk,.i (b.fs.getD i Fx.o).grp]] (.i (fxval (b.fs.getD i Fx.o))):=⟨c_vfx _ hq⟩
      repeat' (first|simp only [go_sem,↓reduceIte,Nat.reduceLT,Nat.reduceEqDiff,Nat.reduceAdd,Nat.reduceLeDiff,reduceCtorEq,e2,e5,e3]|refine cst_go ?_|refine acond_split (fun _=>?_) (fun _=>?_))
      all_goals (try omega)
      ·rename_i hc
       have hz : fxOk b.fs i = false:=by unfold fxOk; cases hd0 : decide (fxval (b.fs.getD i Fx.o) = 0) with|false=>rfl|true=>rw [hd0] at hc; cases hc
       rw [bval_fx hK hR hC (LS.fail hlt hz)]
      ·rename_i hc
       refine ⟨LS.next hlt hh (by unfold fxOk; cases hd0 : decide (fxval (b.fs.getD i Fx.o) = 0) with|true=>rfl|false=>rw [hd0] at hc; cases hc),Nat.sub_lt_sub_left hlt (Nat.lt_succ_self _),wk_go (by decide) ?_ ?_⟩
       ·repeat' (first|exact tw_nil|refine tw_cons rfl ?_ ?_|exact lt_i _ _|exact Lt.pt _ _ (by decide)|exact lt_fxs _ _)
       ·repeat' (first|exact hw_nil|refine hw_cons (by decide) rfl bwk_rfl ?_ ?_|exact lt_i _ _|exact lt_b _ _|exact lt_fxs _ _|refine lt_agg ?_|exact lt_nil|refine lt_cons ?_ ?_)
     ·have f1:=inlt hlt
      have hd:=LS.done hlt hh
      rw [bval_last hK hR hC hd]
      repeat' (first|simp only [go_sem,↓reduceIte,Nat.reduceLT,Nat.reduceEqDiff,Nat.reduceAdd,Nat.reduceLeDiff,reduceCtorEq,f1]|refine cst_go ?_|refine acond_split (fun _=>?_) (fun _=>?_))
      all_goals (rename_i hc; first|(rw [show bdC b = false by simpa using hc]; rfl)|(rw [show bdC b = true by simpa using hc]; rfl))
theorem c_rbval (b : Bd) (hf : b.fs.length ≤ maxLen) (hv : ∀ f ∈ b.fs,f.vs.length ≤ maxLen) : PCall Tryz.prog 128 [.agg [.i b.id,.i b.kd,.i b.px,.i b.py,.i b.an,.i b.vx,.i b.vy,.i b.av,.i b.gx,.i b.gy,.i b.tq,.i b.ld,.i b.ad,.i b.gs,.b b.bul,.b b.fr,.b b.ns,.b b.asl,.i b.idl,.sl (b.fs.map Fx.v)]] (.i (bval b)):=by
 refine pcall_of hm Tryz.func128 rfl (by kernel_rfl) (by rw [Tryz.ntmps128]; exact Nat.le_of_ble_eq_true rfl) (lt_cons (lt_agg (lt_cons (lt_i _ _) (lt_cons (lt_i _ _) (lt_cons (lt_i _ _) (lt_cons (lt_i _ _) (lt_cons (lt_i _ _) (lt_cons (lt_i _ _) (lt_cons (lt_i _ _) (lt_cons (lt_i _ _) (lt_cons (lt_i _ _) (lt_cons (lt_i _ _) (lt_cons (lt_i _ _) (lt_cons (lt_i _ _) (lt_cons (lt_i _ _) (lt_cons (lt_i _ _) (lt_cons (lt_b _ _) (lt_cons (lt_b _ _) (lt_cons (lt_b _ _) (lt_cons (lt_b _ _) (lt_cons (lt_i _ _) (lt_cons (lt_fxs _ _) lt_nil))))))))))))))))))))) lt_nil) (lt_i _ _) ?_
 rw [Tryz.ntmps128,Tryz.results128]
 have i1 : HasC Tryz.prog 197 [.agg [.i b.id,.i b.kd,.i b.px,.i b.py,.i b.an,.i b.vx,.i b.vy,.i b.av,.i b.gx,.i b.gy,.i b.tq,.i b.ld,.i b.ad,.i b.gs,.b b.bul,.b b.fr,.b b.ns,.b b.asl,.i b.idl,.sl (b.fs.map Fx.v)]] (.b (bdR b)):=⟨c_rbdR b⟩
 have e1 : (!decide (b.kd = 1) && !decide (b.kd = 2) && !decide (b.kd = 3)) = !bdK b:=by unfold bdK; simp only [Bool.not_or]
 cases hK : bdK b with
 | false=>
  rw [bval_kind hK]
  repeat' (first|simp only [go_sem,↓reduceIte,Nat.reduceLT,Nat.reduceEqDiff,Nat.reduceAdd,Nat.reduceLeDiff,reduceCtorEq,e1,hK])
  all_goals (try rfl)
 | true=>
  cases hR : bdR b with
  | false=>
   rw [bval_range hK hR]
   repeat' (first|simp only [go_sem,↓reduceIte,Nat.reduceLT,Nat.reduceEqDiff,Nat.reduceAdd,Nat.reduceLeDiff,reduceCtorEq,e1,hK,hR]|refine cst_go ?_)
   all_goals (try rfl)
  | true=>
   by_cases hC : 4 < b.fs.length
   ·rw [bval_count hK hR hC]
    have d4 : ((4 : Int) < (b.fs.length : Int)) = True:=eq_true (by omega)
    repeat' (first|simp only [go_sem,↓reduceIte,Nat.reduceLT,Nat.reduceEqDiff,Nat.reduceAdd,Nat.reduceLeDiff,reduceCtorEq,e1,hK,hR,d4]|refine cst_go ?_)
    all_goals (try rfl)
   ·have d4 : ((4 : Int) < (b.fs.length : Int)) = False:=eq_false (by omega)
    repeat' (first|simp only [go_sem,↓reduceIte,Nat.reduceLT,Nat.reduceEqDiff,Nat.reduceAdd,Nat.reduceLeDiff,reduceCtorEq,e1,hK,hR,d4]|refine cst_go ?_)
    refine tr_lp hm [1] [0] (fun x' : LS b.fs.length (fxOk b.fs)=>[(3,.i x'.i)]) (fun x' : LS b.fs.length (fxOk b.fs)=>[]) (fun x'=>b.fs.length - x'.i) (LS.start _ _) ?_ ?_ ?_
    ·repeat' (first|exact tw_nil|refine tw_cons rfl ?_ ?_|exact lt_i _ _|exact Lt.pt _ _ (by decide))
    ·repeat' (first|exact hw_nil|refine hw_cons (by decide) rfl bwk_rfl ?_ ?_|exact lt_i _ _|exact lt_b _ _|exact lt_fxs _ _|refine lt_agg ?_|exact lt_nil|refine lt_cons ?_ ?_)
    ·rintro ⟨i,hi,hh⟩
     by_cases hlt : i < b.fs.length
     ·have e2:=ilt hlt
      have e5:=isucc hlt hf
      have e3:=fx_getD hlt
      have hq:=hv _ (getD_mem (d:=Fx.o) hlt)
      have j1 : HasC Tryz.prog 198 [.agg [.i (b.fs.getD i Fx.o).k,.i (b.fs.getD i Fx.o).r,.sl ((b.fs.getD i Fx.o).vs.map ev),.i (b.fs.getD i Fx.o).den,.i (b.fs.getD i Fx.o).fri,.i (b.fs.getD i Fx.o).res,.b (b.fs.getD i Fx.o).sen,.i (b.fs.getD i Fx.o).cat,.i (b.fs.getD i Fx.o).msk,.i (b.fs.getD i Fx.o).grp]] (.i (fxval (b.fs.getD i Fx.o))):=⟨c_rvfx _ hq⟩
      repeat' (first|simp only [go_sem,↓reduceIte,Nat.reduceLT,Nat.reduceEqDiff,Nat.reduceAdd,Nat.reduceLeDiff,reduceCtorEq,e2,e5,e3]|refine cst_go ?_|refine acond_split (fun _=>?_) (fun _=>?_))
      all_goals (try omega)
      ·rename_i hc
       have hz : fxOk b.fs i = false:=by unfold fxOk; cases hd0 : decide (fxval (b.fs.getD i Fx.o) = 0) with|false=>rfl|true=>rw [hd0] at hc; cases hc
       rw [bval_fx hK hR hC (LS.fail hlt hz)]
      ·rename_i hc
       refine ⟨LS.next hlt hh (by unfold fxOk; cases hd0 : decide (fxval (b.fs.getD i Fx.o) = 0) with|true=>rfl|false=>rw [hd0] at hc; cases hc),Nat.sub_lt_sub_left hlt (Nat.lt_succ_self _),wk_go (by decide) ?_ ?_⟩
       ·repeat' (first|exact tw_nil|refine tw_cons rfl ?_ ?_|exact lt_i _ _|exact Lt.pt _ _ (by decide))
       ·repeat' (first|exact hw_nil|refine hw_cons (by decide) rfl bwk_rfl ?_ ?_|exact lt_i _ _|exact lt_b _ _|exact lt_fxs _ _|refine lt_agg ?_|exact lt_nil|refine lt_cons ?_ ?_)
     ·have f1:=inlt hlt
      have hd:=LS.done hlt hh
      rw [bval_last hK hR hC hd]
      have m1 : (!(decide (b.vx = 0) && decide (b.vy = 0)) || !decide (b.av = 0)) = bdMv b:=rfl
      have m2 : (!(decide (b.gx = 0) && decide (b.gy = 0)) || !decide (b.tq = 0)) = bdFo b:=rfl
      have m3 : (decide (b.kd = 1) && (bdMv b || bdFo b) || !decide (b.kd = 3) && (b.asl || b.bul) || b.asl && bdMv b) = !bdC b:=by
       unfold bdC; cases bdMv b <;> cases bdFo b <;> cases b.asl <;> cases b.bul <;> cases decide (b.kd = 1) <;> cases decide (b.kd = 3) <;> rfl
      repeat' (first|simp only [go_sem,↓reduceIte,Nat.reduceLT,Nat.reduceEqDiff,Nat.reduceAdd,Nat.reduceLeDiff,reduceCtorEq,f1,m1,m2,m3,Bool.and_true]|refine acond_split (fun _=>?_) (fun _=>?_)|refine And.intro ?_ ?_|(intro (_ : _ = _)))
      all_goals (try (rename_i h1 h2; rw [h1,h2]; rfl))
      all_goals (rename_i hc; first|(rw [show bdC b = false by simpa using hc]; rfl)|(rw [show bdC b = true by simpa using hc]; rfl)|trace_state)
end Go.Proofs.YtplmagdbnbijlaaGreat
/-
 Valid joints. Conditions: none.
-/
namespace Go.Proofs.YtplmagdbnbijlaaGreat
open Go.RowKit Go.AL Go.Carom
theorem c_jlim (kd : Int) : PCall Tryz.prog 329 [.i kd] (.tup [.i (jlow kd),.i (jhigh kd)]):=by
 refine pcall_of hm Tryz.func329 rfl (by kernel_rfl) (by rw [Tryz.ntmps329]; exact Nat.le_of_ble_eq_true rfl) (lt_cons (lt_i _ _) lt_nil) (lt_tup (lt_cons (lt_i _ _) (lt_cons (lt_i _ _) lt_nil))) ?_
 rw [Tryz.ntmps329,Tryz.results329]
 by_cases h1 : kd = 1
 ·have d1 : (kd = 1) = True:=eq_true h1
  repeat' (first|simp only [go_sem,↓reduceIte,Nat.reduceLT,Nat.reduceEqDiff,Nat.reduceAdd,reduceCtorEq,Int.reduceNeg,d1])
  all_goals (unfold jlow jhigh; rw [if_pos h1,if_pos h1])
 ·have d1 : (kd = 1) = False:=eq_false h1
  by_cases h2 : kd = 2
  ·have d2 : (kd = 2) = True:=eq_true h2
   repeat' (first|simp only [go_sem,↓reduceIte,Nat.reduceLT,Nat.reduceEqDiff,Nat.reduceAdd,reduceCtorEq,Int.reduceNeg,d1,d2])
   all_goals (unfold jlow jhigh; rw [if_neg h1,if_neg h1,if_pos h2,if_pos h2])
  ·have d2 : (kd = 2) = False:=eq_false h2
   repeat' (first|simp only [go_sem,↓reduceIte,Nat.reduceLT,Nat.reduceEqDiff,Nat.reduceAdd,reduceCtorEq,Int.reduceNeg,d1,d2])
   all_goals (unfold jlow jhigh; rw [if_neg h1,if_neg h1,if_neg h2,if_neg h2])
theorem c_jpt (x y l : Int) : PCall Tryz.prog 331 [.agg [.i x,.i y],.i l] (.b (inR x (IntKind.i64.wrap (0 - l)) l && inR y (IntKind.i64.wrap (0 - l)) l)):=by
 refine pcall_of hm Tryz.func331 rfl (by kernel_rfl) (by rw [Tryz.ntmps331]; exact Nat.le_of_ble_eq_true rfl) (lt_cons (lt_agg (lt_cons (lt_i _ _) (lt_cons (lt_i _ _) lt_nil))) (lt_cons (lt_i _ _) lt_nil)) (lt_b _ _) ?_
 rw [Tryz.ntmps331,Tryz.results331]
 repeat' (first|simp only [go_sem,↓reduceIte,Nat.reduceLT,Nat.reduceEqDiff,Nat.reduceAdd,Nat.reduceLeDiff,reduceCtorEq]|refine cst_go ?_|refine gcst_go ?_)
 all_goals (try rfl)
instance (x y l : Int) : HasC Tryz.prog 331 [.agg [.i x,.i y],.i l] (.b (inR x (IntKind.i64.wrap (0 - l)) l && inR y (IntKind.i64.wrap (0 - l)) l)):=⟨c_jpt x y l⟩
theorem c_r24sq (x y l : Int) : PCall Tryz.prog 284 [.agg [.i x,.i y],.i l] (.b (inR x (IntKind.i64.wrap (0 - l)) l && inR y (IntKind.i64.wrap (0 - l)) l)):=by
 refine pcall_of hm Tryz.func284 rfl (by kernel_rfl) (by rw [Tryz.ntmps284]; exact Nat.le_of_ble_eq_true rfl) (lt_cons (lt_agg (lt_cons (lt_i _ _) (lt_cons (lt_i _ _) lt_nil))) (lt_cons (lt_i _ _) lt_nil)) (lt_b _ _) ?_
 rw [Tryz.ntmps284,Tryz.results284]
 repeat' (first|simp only [go_sem,↓reduceIte,Nat.reduceLT,Nat.reduceEqDiff,Nat.reduceAdd,Nat.reduceLeDiff,reduceCtorEq]|refine cst_go ?_|refine gcst_go ?_)
 all_goals (try rfl)
instance (x y l : Int) : HasC Tryz.prog 284 [.agg [.i x,.i y],.i l] (.b (inR x (IntKind.i64.wrap (0 - l)) l && inR y (IntKind.i64.wrap (0 - l)) l)):=⟨c_r24sq x y l⟩
theorem c_jB (j : Jt) : PCall Tryz.prog 253 [.agg [.i j.id,.i j.kd,.i j.ba,.i j.bb,.i j.ax,.i j.ay,.i j.bx,.i j.byy,.i j.ux,.i j.uy,.i j.ra,.b j.el,.i j.lo,.i j.up,.b j.em,.i j.ms,.i j.mf,.i j.so,.i j.br,.b j.cc,.i j.i0,.i j.i1,.i j.i2,.i j.i3]] (.b (jB j)):=by
 refine pcall_of hm Tryz.func253 rfl (by kernel_rfl) (by rw [Tryz.ntmps253]; exact Nat.le_of_ble_eq_true rfl) (lt_cons (lt_agg (lt_cons (lt_i _ _) (lt_cons (lt_i _ _) (lt_cons (lt_i _ _) (lt_cons (lt_i _ _) (lt_cons (lt_i _ _) (lt_cons (lt_i _ _) (lt_cons (lt_i _ _) (lt_cons (lt_i _ _) (lt_cons (lt_i _ _) (lt_cons (lt_i _ _) (lt_cons (lt_i _ _) (lt_cons (lt_b _ _) (lt_cons (lt_i _ _) (lt_cons (lt_i _ _) (lt_cons (lt_b _ _) (lt_cons (lt_i _ _) (lt_cons (lt_i _ _) (lt_cons (lt_i _ _) (lt_cons (lt_i _ _) (lt_cons (lt_b _ _) (lt_cons (lt_i _ _) (lt_cons (lt_i _ _) (lt_cons (lt_i _ _) (lt_cons (lt_i _ _) lt_nil))))))))))))))))))))))))) lt_nil) (lt_b _ _) ?_
 rw [Tryz.ntmps253,Tryz.results253]
 by_cases h5 : j.kd = 5
 ·have d5 : (j.kd = 5) = True:=eq_true h5
  repeat' (first|simp only [go_sem,↓reduceIte,Nat.reduceLT,Nat.reduceEqDiff,Nat.reduceAdd,Nat.reduceLeDiff,reduceCtorEq,d5]|refine gcst_go ?_)
  all_goals (refine leaf_b ?_; unfold jB; rw [if_pos h5])
 ·have d5 : (j.kd = 5) = False:=eq_false h5
  repeat' (first|simp only [go_sem,↓reduceIte,Nat.reduceLT,Nat.reduceEqDiff,Nat.reduceAdd,Nat.reduceLeDiff,reduceCtorEq,d5]|refine cst_go ?_|refine gcst_go ?_)
  all_goals (refine leaf_b ?_; unfold jB; rw [if_neg h5])
theorem c_jR (j : Jt) : PCall Tryz.prog 252 [.agg [.i j.id,.i j.kd,.i j.ba,.i j.bb,.i j.ax,.i j.ay,.i j.bx,.i j.byy,.i j.ux,.i j.uy,.i j.ra,.b j.el,.i j.lo,.i j.up,.b j.em,.i j.ms,.i j.mf,.i j.so,.i j.br,.b j.cc,.i j.i0,.i j.i1,.i j.i2,.i j.i3]] (.b (jR j)):=by
 refine pcall_of hm Tryz.func252 rfl (by kernel_rfl) (by rw [Tryz.ntmps252]; exact Nat.le_of_ble_eq_true rfl) (lt_cons (lt_agg (lt_cons (lt_i _ _) (lt_cons (lt_i _ _) (lt_cons (lt_i _ _) (lt_cons (lt_i _ _) (lt_cons (lt_i _ _) (lt_cons (lt_i _ _) (lt_cons (lt_i _ _) (lt_cons (lt_i _ _) (lt_cons (lt_i _ _) (lt_cons (lt_i _ _) (lt_cons (lt_i _ _) (lt_cons (lt_b _ _) (lt_cons (lt_i _ _) (lt_cons (lt_i _ _) (lt_cons (lt_b _ _) (lt_cons (lt_i _ _) (lt_cons (lt_i _ _) (lt_cons (lt_i _ _) (lt_cons (lt_i _ _) (lt_cons (lt_b _ _) (lt_cons (lt_i _ _) (lt_cons (lt_i _ _) (lt_cons (lt_i _ _) (lt_cons (lt_i _ _) lt_nil))))))))))))))))))))))))) lt_nil) (lt_b _ _) ?_
 rw [Tryz.ntmps252,Tryz.results252]
 have i1 : HasC Tryz.prog 329 [.i j.kd] (.tup [.i (jlow j.kd),.i (jhigh j.kd)]):=⟨c_jlim j.kd⟩
 have k0 : IntKind.i64.wrap (-268435456) = -268435456:=by kernel_rfl
 have k1 : IntKind.i64.wrap (-1048576) = -1048576:=by kernel_rfl
 have z0 : (0 : Int) - 268435456 = -268435456:=rfl
 have z1 : (0 : Int) - 1048576 = -1048576:=rfl
 have w1 : IntKind.i64.wrap 1 = 1:=by kernel_rfl
 have w2 : IntKind.i64.wrap 2 = 2:=by kernel_rfl
 have w3 : IntKind.i64.wrap 3 = 3:=by kernel_rfl
 have w4 : IntKind.i64.wrap 4 = 4:=by kernel_rfl
 have hI : jR j = (jImp j && (jP j && jLim j && jM j)):=rfl
 have hJ : jImp j = (inR j.i0 (-536870911) 536870911 && inR j.i1 (-536870911) 536870911 && inR j.i2 (-536870911) 536870911 && inR j.i3 (-536870911) 536870911):=rfl
 by_cases h5 : j.kd = 5
 ·have d5 : (j.kd = 5) = True:=eq_true h5
  have hr : jreach j.kd = 268435456:=by unfold jreach; rw [if_pos h5]
  repeat' (first|simp only [go_sem,↓reduceIte,Nat.reduceLT,Nat.reduceEqDiff,Nat.reduceAdd,Nat.reduceLeDiff,Nat.reduceMul,reduceCtorEq,Int.reduceLT,Int.reduceLE,Int.reduceNeg,Int.reduceAdd,Int.reduceToNat,d5,k0,k1,z0,z1,w1,w2,w3,w4]|refine cst_go ?_|refine gcst_go ?_|refine tr_rounds hm (.s (.s (.s (.s (.s .z))))) ?_|refine acond_split (fun _=>?_) (fun _=>?_)|refine And.intro ?_ ?_)
  all_goals (try omega)
  all_goals (refine leaf_b ?_; rw [hI,hJ]; clear hI hJ h5 d5; simp only [Bool.not_eq_true',Bool.not_eq_false'] at *)
  all_goals first
   | (simp only [*,Bool.false_and,Bool.and_false,Bool.true_and,Bool.and_true]; done)
   | (simp only [*,Bool.true_and]; unfold jP jLim jM; rw [hr]; ac_rfl)
 ·have d5 : (j.kd = 5) = False:=eq_false h5
  have hr : jreach j.kd = 1048576:=by unfold jreach; rw [if_neg h5]
  repeat' (first|simp only [go_sem,↓reduceIte,Nat.reduceLT,Nat.reduceEqDiff,Nat.reduceAdd,Nat.reduceLeDiff,Nat.reduceMul,reduceCtorEq,Int.reduceLT,Int.reduceLE,Int.reduceNeg,Int.reduceAdd,Int.reduceToNat,d5,k1,z1,w1,w2,w3,w4]|refine cst_go ?_|refine gcst_go ?_|refine tr_rounds hm (.s (.s (.s (.s (.s .z))))) ?_|refine acond_split (fun _=>?_) (fun _=>?_)|refine And.intro ?_ ?_)
  all_goals (try omega)
  all_goals (refine leaf_b ?_; rw [hI,hJ]; clear hI hJ h5 d5; simp only [Bool.not_eq_true',Bool.not_eq_false'] at *)
  all_goals first
   | (simp only [*,Bool.false_and,Bool.and_false,Bool.true_and,Bool.and_true]; done)
   | (simp only [*,Bool.true_and]; unfold jP jLim jM; rw [hr]; ac_rfl)
theorem c_rlimv (j : Jt) : PCall Tryz.prog 285 [.agg [.i j.id,.i j.kd,.i j.ba,.i j.bb,.i j.ax,.i j.ay,.i j.bx,.i j.byy,.i j.ux,.i j.uy,.i j.ra,.b j.el,.i j.lo,.i j.up,.b j.em,.i j.ms,.i j.mf,.i j.so,.i j.br,.b j.cc,.i j.i0,.i j.i1,.i j.i2,.i j.i3]] (.b (jLimR j)):=by
 refine pcall_of hm Tryz.func285 rfl (by kernel_rfl) (by rw [Tryz.ntmps285]; exact Nat.le_of_ble_eq_true rfl) (lt_cons (lt_agg (lt_cons (lt_i _ _) (lt_cons (lt_i _ _) (lt_cons (lt_i _ _) (lt_cons (lt_i _ _) (lt_cons (lt_i _ _) (lt_cons (lt_i _ _) (lt_cons (lt_i _ _) (lt_cons (lt_i _ _) (lt_cons (lt_i _ _) (lt_cons (lt_i _ _) (lt_cons (lt_i _ _) (lt_cons (lt_b _ _) (lt_cons (lt_i _ _) (lt_cons (lt_i _ _) (lt_cons (lt_b _ _) (lt_cons (lt_i _ _) (lt_cons (lt_i _ _) (lt_cons (lt_i _ _) (lt_cons (lt_i _ _) (lt_cons (lt_b _ _) (lt_cons (lt_i _ _) (lt_cons (lt_i _ _) (lt_cons (lt_i _ _) (lt_cons (lt_i _ _) lt_nil))))))))))))))))))))))))) lt_nil) (lt_b _ _) ?_
 rw [Tryz.ntmps285,Tryz.results285]
 have e1 : (!inR j.lo (-268435456) 268435456 || !inR j.up (-268435456) 268435456 || decide (j.up < j.lo)) = !(inR j.lo (-268435456) 268435456 && inR j.up (-268435456) 268435456 && decide (j.lo ≤ j.up)):=by
  rw [show decide (j.up < j.lo) = !decide (j.lo ≤ j.up) by rw [Bool.eq_iff_iff]; simp]; simp only [Bool.not_and]
 have hL : jLimR j = ((inR j.lo (-268435456) 268435456 && inR j.up (-268435456) 268435456 && decide (j.lo ≤ j.up)) && (if j.kd = 1 then decide (0 ≤ j.lo) else !decide (j.kd = 2) || (decide (-205888 ≤ j.lo) && decide (j.up ≤ 205888)))):=rfl
 cases hA : (inR j.lo (-268435456) 268435456 && inR j.up (-268435456) 268435456 && decide (j.lo ≤ j.up)) with
 | false=>
  rw [hL,hA,Bool.false_and]
  rw [hA] at e1
  repeat' (first|simp only [go_sem,↓reduceIte,Nat.reduceLT,Nat.reduceEqDiff,Nat.reduceAdd,Nat.reduceLeDiff,reduceCtorEq,Int.reduceNeg,e1]|refine cst_go ?_|refine gcst_go ?_)
  all_goals (try rfl)
 | true=>
  rw [hL,hA,Bool.true_and]
  rw [hA] at e1
  by_cases h1 : j.kd = 1
  ·have d1 : (j.kd = 1) = True:=eq_true h1
   rw [if_pos h1]
   repeat' (first|simp only [go_sem,↓reduceIte,Nat.reduceLT,Nat.reduceEqDiff,Nat.reduceAdd,Nat.reduceLeDiff,reduceCtorEq,Int.reduceNeg,e1,d1]|refine cst_go ?_|refine gcst_go ?_)
   all_goals (try rfl)
  ·have d1 : (j.kd = 1) = False:=eq_false h1
   rw [if_neg h1]
   repeat' (first|simp only [go_sem,↓reduceIte,Nat.reduceLT,Nat.reduceEqDiff,Nat.reduceAdd,Nat.reduceLeDiff,reduceCtorEq,Int.reduceNeg,e1,d1]|refine cst_go ?_|refine gcst_go ?_|(intro (_ : _ = _)))
   all_goals (try rfl)
   all_goals (try (rename_i h2; rw [h2]; rfl))
   all_goals (try (rename_i h2 h3; rw [h2,h3]; rfl))
theorem c_rjR (j : Jt) : PCall Tryz.prog 199 [.agg [.i j.id,.i j.kd,.i j.ba,.i j.bb,.i j.ax,.i j.ay,.i j.bx,.i j.byy,.i j.ux,.i j.uy,.i j.ra,.b j.el,.i j.lo,.i j.up,.b j.em,.i j.ms,.i j.mf,.i j.so,.i j.br,.b j.cc,.i j.i0,.i j.i1,.i j.i2,.i j.i3]] (.b (jR j)):=by
 refine pcall_of hm Tryz.func199 rfl (by kernel_rfl) (by rw [Tryz.ntmps199]; exact Nat.le_of_ble_eq_true rfl) (lt_cons (lt_agg (lt_cons (lt_i _ _) (lt_cons (lt_i _ _) (lt_cons (lt_i _ _) (lt_cons (lt_i _ _) (lt_cons (lt_i _ _) (lt_cons (lt_i _ _) (lt_cons (lt_i _ _) (lt_cons (lt_i _ _) (lt_cons (lt_i _ _) (lt_cons (lt_i _ _) (lt_cons (lt_i _ _) (lt_cons (lt_b _ _) (lt_cons (lt_i _ _) (lt_cons (lt_i _ _) (lt_cons (lt_b _ _) (lt_cons (lt_i _ _) (lt_cons (lt_i _ _) (lt_cons (lt_i _ _) (lt_cons (lt_i _ _) (lt_cons (lt_b _ _) (lt_cons (lt_i _ _) (lt_cons (lt_i _ _) (lt_cons (lt_i _ _) (lt_cons (lt_i _ _) lt_nil))))))))))))))))))))))))) lt_nil) (lt_b _ _) ?_
 rw [Tryz.ntmps199,Tryz.results199]
 have i1 : HasC Tryz.prog 285 [.agg [.i j.id,.i j.kd,.i j.ba,.i j.bb,.i j.ax,.i j.ay,.i j.bx,.i j.byy,.i j.ux,.i j.uy,.i j.ra,.b j.el,.i j.lo,.i j.up,.b j.em,.i j.ms,.i j.mf,.i j.so,.i j.br,.b j.cc,.i j.i0,.i j.i1,.i j.i2,.i j.i3]] (.b (jLim j)):=⟨by rw [← jLim_eq]; exact c_rlimv j⟩
 have k0 : IntKind.i64.wrap (-268435456) = -268435456:=by kernel_rfl
 have k1 : IntKind.i64.wrap (-1048576) = -1048576:=by kernel_rfl
 have z0 : (0 : Int) - 268435456 = -268435456:=rfl
 have z1 : (0 : Int) - 1048576 = -1048576:=rfl
 have w1 : IntKind.i64.wrap 1 = 1:=by kernel_rfl
 have w2 : IntKind.i64.wrap 2 = 2:=by kernel_rfl
 have w3 : IntKind.i64.wrap 3 = 3:=by kernel_rfl
 have w4 : IntKind.i64.wrap 4 = 4:=by kernel_rfl
 have hI : jR j = (jImp j && (jP j && jLim j && jM j)):=rfl
 have hJ : jImp j = (inR j.i0 (-536870911) 536870911 && inR j.i1 (-536870911) 536870911 && inR j.i2 (-536870911) 536870911 && inR j.i3 (-536870911) 536870911):=rfl
 have hM : (inR j.ms (-16777216) 16777216 && inR j.mf 0 536870911 && inR j.so 0 536870911 && inR j.br 0 536870911) = jM j:=rfl
 by_cases h5 : j.kd = 5
 ·have d5 : (j.kd = 5) = True:=eq_true h5
  have hr : jreach j.kd = 268435456:=by unfold jreach; rw [if_pos h5]
  have hP : (!inR j.id 1 1099511627776 || !(inR j.ax (-268435456) 268435456 && inR j.ay (-268435456) 268435456) || !(inR j.bx (-1048576) 1048576 && inR j.byy (-1048576) 1048576) || !inR j.ra (-205888) 205887 || !jLim j) = !(jP j && jLim j):=by
   unfold jP; rw [hr]; simp only [Bool.not_and,Bool.or_assoc]
  repeat' (first|simp only [go_sem,↓reduceIte,Nat.reduceLT,Nat.reduceEqDiff,Nat.reduceAdd,Nat.reduceLeDiff,Nat.reduceMul,reduceCtorEq,Int.reduceLT,Int.reduceLE,Int.reduceNeg,Int.reduceAdd,Int.reduceToNat,d5,k0,k1,z0,z1,w1,w2,w3,w4,hP,hM]|refine cst_go ?_|refine gcst_go ?_|refine tr_rounds hm (.s (.s (.s (.s (.s .z))))) ?_|refine acond_split (fun _=>?_) (fun _=>?_)|refine And.intro ?_ ?_)
  all_goals (try omega)
  all_goals (refine leaf_b ?_; rw [hI,hJ]; clear hI hJ h5 d5; simp only [Bool.not_eq_true',Bool.not_eq_false'] at *)
  all_goals first
   | (simp only [*,Bool.false_and,Bool.and_false,Bool.true_and,Bool.and_true]; done)
   | skip
 ·have d5 : (j.kd = 5) = False:=eq_false h5
  have hr : jreach j.kd = 1048576:=by unfold jreach; rw [if_neg h5]
  have hP : (!inR j.id 1 1099511627776 || !(inR j.ax (-1048576) 1048576 && inR j.ay (-1048576) 1048576) || !(inR j.bx (-1048576) 1048576 && inR j.byy (-1048576) 1048576) || !inR j.ra (-205888) 205887 || !jLim j) = !(jP j && jLim j):=by
   unfold jP; rw [hr]; simp only [Bool.not_and,Bool.or_assoc]
  repeat' (first|simp only [go_sem,↓reduceIte,Nat.reduceLT,Nat.reduceEqDiff,Nat.reduceAdd,Nat.reduceLeDiff,Nat.reduceMul,reduceCtorEq,Int.reduceLT,Int.reduceLE,Int.reduceNeg,Int.reduceAdd,Int.reduceToNat,d5,k1,z1,w1,w2,w3,w4,hP,hM]|refine cst_go ?_|refine gcst_go ?_|refine tr_rounds hm (.s (.s (.s (.s (.s .z))))) ?_|refine acond_split (fun _=>?_) (fun _=>?_)|refine And.intro ?_ ?_)
  all_goals (try omega)
  all_goals (refine leaf_b ?_; rw [hI,hJ]; clear hI hJ h5 d5; simp only [Bool.not_eq_true',Bool.not_eq_false'] at *)
  all_goals first
   | (simp only [*,Bool.false_and,Bool.and_false,Bool.true_and,Bool.and_true]; done)
   | skip
end Go.Proofs.YtplmagdbnbijlaaGreat
/-
 Valid joints,second part. Conditions: none.
-/
namespace Go.Proofs.YtplmagdbnbijlaaGreat
open Go.RowKit Go.AL Go.Carom
theorem c_jC (j : Jt) : PCall Tryz.prog 254 [.agg [.i j.id,.i j.kd,.i j.ba,.i j.bb,.i j.ax,.i j.ay,.i j.bx,.i j.byy,.i j.ux,.i j.uy,.i j.ra,.b j.el,.i j.lo,.i j.up,.b j.em,.i j.ms,.i j.mf,.i j.so,.i j.br,.b j.cc,.i j.i0,.i j.i1,.i j.i2,.i j.i3]] (.b (jC j)):=by
 refine pcall_of hm Tryz.func254 rfl (by kernel_rfl) (by rw [Tryz.ntmps254]; exact Nat.le_of_ble_eq_true rfl) (lt_cons (lt_agg (lt_cons (lt_i _ _) (lt_cons (lt_i _ _) (lt_cons (lt_i _ _) (lt_cons (lt_i _ _) (lt_cons (lt_i _ _) (lt_cons (lt_i _ _) (lt_cons (lt_i _ _) (lt_cons (lt_i _ _) (lt_cons (lt_i _ _) (lt_cons (lt_i _ _) (lt_cons (lt_i _ _) (lt_cons (lt_b _ _) (lt_cons (lt_i _ _) (lt_cons (lt_i _ _) (lt_cons (lt_b _ _) (lt_cons (lt_i _ _) (lt_cons (lt_i _ _) (lt_cons (lt_i _ _) (lt_cons (lt_i _ _) (lt_cons (lt_b _ _) (lt_cons (lt_i _ _) (lt_cons (lt_i _ _) (lt_cons (lt_i _ _) (lt_cons (lt_i _ _) lt_nil))))))))))))))))))))))))) lt_nil) (lt_b _ _) ?_
 rw [Tryz.ntmps254,Tryz.results254]
 have i1 : HasC Tryz.prog 208 [.agg [.i j.ux,.i j.uy]] (.i (vlen j.ux j.uy)):=⟨c_vlen j.ux j.uy⟩
 unfold jC jPl
 generalize vlen j.ux j.uy = vl at *
 by_cases h3 : j.kd = 3
 ·have d3 : (j.kd = 3) = True:=eq_true h3
  refine seq_cut (fun KB hKB=>?_)
  repeat' (first|simp only [go_sem,↓reduceIte,Nat.reduceLT,Nat.reduceAdd,d3])
  rw [hKB]
  clear hKB KB
  refine seq_cut (fun KB hKB=>?_)
  repeat' (first|simp only [go_sem,↓reduceIte,Nat.reduceLT,Nat.reduceEqDiff,Nat.reduceAdd,Nat.reduceLeDiff,reduceCtorEq,d3,Bool.and_true])
  rw [hKB]
  clear hKB KB
  with_reducible (refine seq_gen ?_; intro P4 _ _ _)
  refine seq_cut (fun KB hKB=>?_)
  repeat' (first|simp only [go_sem,↓reduceIte,Nat.reduceLT,Nat.reduceEqDiff,Nat.reduceAdd,Nat.reduceLeDiff,reduceCtorEq])
  rw [hKB]
  clear hKB KB
  repeat (with_reducible (first|(refine blk_gen ?_; intro Q _ _ _)|(refine seq_gen ?_; intro Q _ _ _)))
  repeat' (first|simp only [go_sem,↓reduceIte,Nat.reduceLT,Nat.reduceEqDiff,Nat.reduceAdd,Nat.reduceLeDiff,reduceCtorEq, *]|refine cst_go ?_)
  all_goals (try (rename_i h1 h2; rw [h1,h2]; rfl))
  all_goals (refine leaf_b ?_; rw [if_pos h3])
 ·have d3 : (j.kd = 3) = False:=eq_false h3
  by_cases h1 : j.kd = 1
  ·have d1 : (j.kd = 1) = True:=eq_true h1
   refine seq_cut (fun KB hKB=>?_)
   repeat' (first|simp only [go_sem,↓reduceIte,Nat.reduceLT,Nat.reduceAdd,d3,d1])
   rw [hKB]
   clear hKB KB
   refine seq_cut (fun KB hKB=>?_)
   repeat' (first|simp only [go_sem,↓reduceIte,Nat.reduceLT,Nat.reduceEqDiff,Nat.reduceAdd,Nat.reduceLeDiff,reduceCtorEq,d3,d1,Bool.and_true])
   rw [hKB]
   clear hKB KB
   with_reducible (refine seq_gen ?_; intro P4 _ _ _)
   refine seq_cut (fun KB hKB=>?_)
   repeat' (first|simp only [go_sem,↓reduceIte,Nat.reduceLT,Nat.reduceEqDiff,Nat.reduceAdd,Nat.reduceLeDiff,reduceCtorEq])
   rw [hKB]
   clear hKB KB
   repeat (with_reducible (first|(refine blk_gen ?_; intro Q _ _ _)|(refine seq_gen ?_; intro Q _ _ _)))
   repeat' (first|simp only [go_sem,↓reduceIte,Nat.reduceLT,Nat.reduceEqDiff,Nat.reduceAdd,Nat.reduceLeDiff,reduceCtorEq,Int.reduceEq, *])
   all_goals (try (rename_i h1 h2; rw [h1,h2]; rfl))
   all_goals (refine leaf_b ?_; rw [if_neg h3,if_pos h1])
  ·have d1 : (j.kd = 1) = False:=eq_false h1
   by_cases h4 : j.kd = 4
   ·have d4 : (j.kd = 4) = True:=eq_true h4
    refine seq_cut (fun KB hKB=>?_)
    repeat' (first|simp only [go_sem,↓reduceIte,Nat.reduceLT,Nat.reduceAdd,d3,d1,d4])
    rw [hKB]
    clear hKB KB
    refine seq_cut (fun KB hKB=>?_)
    repeat' (first|simp only [go_sem,↓reduceIte,Nat.reduceLT,Nat.reduceEqDiff,Nat.reduceAdd,Nat.reduceLeDiff,reduceCtorEq,d3,d1,d4,Bool.and_true])
    rw [hKB]
    clear hKB KB
    with_reducible (refine seq_gen ?_; intro P4 _ _ _)
    refine seq_cut (fun KB hKB=>?_)
    repeat' (first|simp only [go_sem,↓reduceIte,Nat.reduceLT,Nat.reduceEqDiff,Nat.reduceAdd,Nat.reduceLeDiff,reduceCtorEq])
    rw [hKB]
    clear hKB KB
    repeat (with_reducible (first|(refine blk_gen ?_; intro Q _ _ _)|(refine seq_gen ?_; intro Q _ _ _)))
    repeat' (first|simp only [go_sem,↓reduceIte,Nat.reduceLT,Nat.reduceEqDiff,Nat.reduceAdd,Nat.reduceLeDiff,reduceCtorEq,Int.reduceEq, *])
    all_goals (try (rename_i h1 h2; rw [h1,h2]; rfl))
    all_goals (refine leaf_b ?_; rw [if_neg h3,if_neg h1,if_pos (Or.inl h4)])
   ·have d4 : (j.kd = 4) = False:=eq_false h4
    by_cases h5 : j.kd = 5
    ·have d5 : (j.kd = 5) = True:=eq_true h5
     refine seq_cut (fun KB hKB=>?_)
     repeat' (first|simp only [go_sem,↓reduceIte,Nat.reduceLT,Nat.reduceAdd,d3,d1,d4,d5])
     rw [hKB]
     clear hKB KB
     refine seq_cut (fun KB hKB=>?_)
     repeat' (first|simp only [go_sem,↓reduceIte,Nat.reduceLT,Nat.reduceEqDiff,Nat.reduceAdd,Nat.reduceLeDiff,reduceCtorEq,d3,d1,d4,d5,Bool.and_true])
     rw [hKB]
     clear hKB KB
     with_reducible (refine seq_gen ?_; intro P4 _ _ _)
     refine seq_cut (fun KB hKB=>?_)
     repeat' (first|simp only [go_sem,↓reduceIte,Nat.reduceLT,Nat.reduceEqDiff,Nat.reduceAdd,Nat.reduceLeDiff,reduceCtorEq])
     rw [hKB]
     clear hKB KB
     repeat (with_reducible (first|(refine blk_gen ?_; intro Q _ _ _)|(refine seq_gen ?_; intro Q _ _ _)))
     repeat' (first|simp only [go_sem,↓reduceIte,Nat.reduceLT,Nat.reduceEqDiff,Nat.reduceAdd,Nat.reduceLeDiff,reduceCtorEq,Int.reduceEq, *])
     all_goals (try (rename_i h1 h2; rw [h1,h2]; rfl))
     all_goals (refine leaf_b ?_; rw [if_neg h3,if_neg h1,if_pos (Or.inr h5)])
    ·have d5 : (j.kd = 5) = False:=eq_false h5
     refine seq_cut (fun KB hKB=>?_)
     repeat' (first|simp only [go_sem,↓reduceIte,Nat.reduceLT,Nat.reduceAdd,d3,d1,d4,d5])
     rw [hKB]
     clear hKB KB
     refine seq_cut (fun KB hKB=>?_)
     repeat' (first|simp only [go_sem,↓reduceIte,Nat.reduceLT,Nat.reduceEqDiff,Nat.reduceAdd,Nat.reduceLeDiff,reduceCtorEq,d3,d1,d4,d5,Bool.and_true])
     rw [hKB]
     clear hKB KB
     with_reducible (refine seq_gen ?_; intro P4 _ _ _)
     refine seq_cut (fun KB hKB=>?_)
     repeat' (first|simp only [go_sem,↓reduceIte,Nat.reduceLT,Nat.reduceEqDiff,Nat.reduceAdd,Nat.reduceLeDiff,reduceCtorEq])
     rw [hKB]
     clear hKB KB
     repeat (with_reducible (first|(refine blk_gen ?_; intro Q _ _ _)|(refine seq_gen ?_; intro Q _ _ _)))
     repeat' (first|simp only [go_sem,↓reduceIte,Nat.reduceLT,Nat.reduceEqDiff,Nat.reduceAdd,reduceCtorEq, *])
     all_goals (try (rename_i h1 h2; rw [h1,h2]; rfl))
     all_goals (refine leaf_b ?_; rw [if_neg h3,if_neg h1,if_neg (by omega)])
theorem c_jval (j : Jt) : PCall Tryz.prog 159 [.agg [.i j.id,.i j.kd,.i j.ba,.i j.bb,.i j.ax,.i j.ay,.i j.bx,.i j.byy,.i j.ux,.i j.uy,.i j.ra,.b j.el,.i j.lo,.i j.up,.b j.em,.i j.ms,.i j.mf,.i j.so,.i j.br,.b j.cc,.i j.i0,.i j.i1,.i j.i2,.i j.i3]] (.i (jval j)):=by
 refine pcall_of hm Tryz.func159 rfl (by kernel_rfl) (by rw [Tryz.ntmps159]; exact Nat.le_of_ble_eq_true rfl) (lt_cons (lt_agg (lt_cons (lt_i _ _) (lt_cons (lt_i _ _) (lt_cons (lt_i _ _) (lt_cons (lt_i _ _) (lt_cons (lt_i _ _) (lt_cons (lt_i _ _) (lt_cons (lt_i _ _) (lt_cons (lt_i _ _) (lt_cons (lt_i _ _) (lt_cons (lt_i _ _) (lt_cons (lt_i _ _) (lt_cons (lt_b _ _) (lt_cons (lt_i _ _) (lt_cons (lt_i _ _) (lt_cons (lt_b _ _) (lt_cons (lt_i _ _) (lt_cons (lt_i _ _) (lt_cons (lt_i _ _) (lt_cons (lt_i _ _) (lt_cons (lt_b _ _) (lt_cons (lt_i _ _) (lt_cons (lt_i _ _) (lt_cons (lt_i _ _) (lt_cons (lt_i _ _) lt_nil))))))))))))))))))))))))) lt_nil) (lt_i _ _) ?_
 rw [Tryz.ntmps159,Tryz.results159]
 have i1 : HasC Tryz.prog 252 [.agg [.i j.id,.i j.kd,.i j.ba,.i j.bb,.i j.ax,.i j.ay,.i j.bx,.i j.byy,.i j.ux,.i j.uy,.i j.ra,.b j.el,.i j.lo,.i j.up,.b j.em,.i j.ms,.i j.mf,.i j.so,.i j.br,.b j.cc,.i j.i0,.i j.i1,.i j.i2,.i j.i3]] (.b (jR j)):=⟨c_jR j⟩
 have i2 : HasC Tryz.prog 253 [.agg [.i j.id,.i j.kd,.i j.ba,.i j.bb,.i j.ax,.i j.ay,.i j.bx,.i j.byy,.i j.ux,.i j.uy,.i j.ra,.b j.el,.i j.lo,.i j.up,.b j.em,.i j.ms,.i j.mf,.i j.so,.i j.br,.b j.cc,.i j.i0,.i j.i1,.i j.i2,.i j.i3]] (.b (jB j)):=⟨c_jB j⟩
 have i3 : HasC Tryz.prog 254 [.agg [.i j.id,.i j.kd,.i j.ba,.i j.bb,.i j.ax,.i j.ay,.i j.bx,.i j.byy,.i j.ux,.i j.uy,.i j.ra,.b j.el,.i j.lo,.i j.up,.b j.em,.i j.ms,.i j.mf,.i j.so,.i j.br,.b j.cc,.i j.i0,.i j.i1,.i j.i2,.i j.i3]] (.b (jC j)):=⟨c_jC j⟩
 by_cases hk : j.kd < 1 ∨ 5 < j.kd
 ·have d1 : (decide (j.kd < 1) || decide (5 < j.kd)) = true:=by rcases hk with h|h <;> simp [h]
  have hq : jval j = 10:=by unfold jval; rw [if_pos hk]
  rw [hq]
  repeat' (first|simp only [go_sem,↓reduceIte,Nat.reduceLT,Nat.reduceEqDiff,Nat.reduceAdd,Nat.reduceLeDiff,reduceCtorEq,d1])
  all_goals (try rfl)
 ·have d1 : (decide (j.kd < 1) || decide (5 < j.kd)) = false:=by simp; omega
  cases hR : jR j with
  | false=>
   have hq : jval j = 6:=by unfold jval; rw [if_neg hk,if_pos hR]
   rw [hq]
   repeat' (first|simp only [go_sem,↓reduceIte,Nat.reduceLT,Nat.reduceEqDiff,Nat.reduceAdd,Nat.reduceLeDiff,reduceCtorEq,d1,hR]|refine cst_go ?_)
   all_goals (try rfl)
  | true=>
   cases hB : jB j with
   | false=>
    have hq : jval j = 14:=by unfold jval; rw [if_neg hk,if_neg (by rw [hR]; decide),if_pos hB]
    rw [hq]
    repeat' (first|simp only [go_sem,↓reduceIte,Nat.reduceLT,Nat.reduceEqDiff,Nat.reduceAdd,Nat.reduceLeDiff,reduceCtorEq,d1,hR,hB]|refine cst_go ?_)
    all_goals (try rfl)
   | true=>
    cases hC : jC j with
    | true=>
     have hq : jval j = 15:=by unfold jval; rw [if_neg hk,if_neg (by rw [hR]; decide),if_neg (by rw [hB]; decide),if_pos hC]
     rw [hq]
     repeat' (first|simp only [go_sem,↓reduceIte,Nat.reduceLT,Nat.reduceEqDiff,Nat.reduceAdd,Nat.reduceLeDiff,reduceCtorEq,d1,hR,hB,hC]|refine cst_go ?_)
     all_goals (try rfl)
    | false=>
     have hq : jval j = 0:=by unfold jval; rw [if_neg hk,if_neg (by rw [hR]; decide),if_neg (by rw [hB]; decide),if_neg (by rw [hC]; decide)]
     rw [hq]
     repeat' (first|simp only [go_sem,↓reduceIte,Nat.reduceLT,Nat.reduceEqDiff,Nat.reduceAdd,Nat.reduceLeDiff,reduceCtorEq,d1,hR,hB,hC]|refine cst_go ?_)
     all_goals (try rfl)
end Go.Proofs.YtplmagdbnbijlaaGreat
/-
 The reference's Validate of joints. Conditions: none.
-/
namespace Go.Proofs.YtplmagdbnbijlaaGreat
open Go.RowKit Go.AL Go.Carom
theorem rj14 (j : Jt) : (!inR j.bb 1 1099511627776 || decide (j.kd = 5) && !decide (j.ba = 0) || !decide (j.kd = 5) && (!inR j.ba 1 1099511627776 || decide (j.ba = j.bb))) = !jB j:=by
 unfold jB
 by_cases h5 : j.kd = 5
 ·rw [if_pos h5,decide_eq_true h5]; cases inR j.bb 1 1099511627776 <;> cases decide (j.ba = 0) <;> rfl
 ·rw [if_neg h5,decide_eq_false h5]; cases inR j.bb 1 1099511627776 <;> cases inR j.ba 1 1099511627776 <;> cases decide (j.ba = j.bb) <;> rfl
theorem rj15 (j : Jt) (vl : Int) (h : vlen j.ux j.uy = vl) : ((decide (j.kd = 3) && !inR vl 65520 65552 || !decide (j.kd = 3) && !(decide (j.ux = 0) && decide (j.uy = 0))) || ((decide (j.kd = 1) || (decide (j.kd = 4) || decide (j.kd = 5))) && j.em || (decide (j.kd = 4) || decide (j.kd = 5)) && j.el || decide (j.kd = 1) && !j.el)) = jC j:=by
 unfold jC jPl
 rw [h]
 by_cases h3 : j.kd = 3
 ·have h1 : ¬ j.kd = 1:=by omega
  have h4 : ¬ j.kd = 4:=by omega
  have h5 : ¬ j.kd = 5:=by omega
  rw [if_pos h3,decide_eq_true h3,decide_eq_false h1,decide_eq_false h4,decide_eq_false h5]; cases inR vl 65520 65552 <;> cases j.em <;> cases j.el <;> rfl
 ·rw [if_neg h3,decide_eq_false h3]
  by_cases h1 : j.kd = 1
  ·have h4 : ¬ j.kd = 4:=by omega
   have h5 : ¬ j.kd = 5:=by omega
   rw [if_pos h1,decide_eq_true h1,decide_eq_false h4,decide_eq_false h5]; cases (decide (j.ux = 0) && decide (j.uy = 0)) <;> cases j.em <;> cases j.el <;> rfl
  ·rw [if_neg h1,decide_eq_false h1]
   by_cases h4 : j.kd = 4
   ·have h5 : ¬ j.kd = 5:=by omega
    rw [if_pos (Or.inl h4),decide_eq_true h4,decide_eq_false h5]; cases (decide (j.ux = 0) && decide (j.uy = 0)) <;> cases j.em <;> cases j.el <;> rfl
   ·rw [decide_eq_false h4]
    by_cases h5 : j.kd = 5
    ·rw [if_pos (Or.inr h5),decide_eq_true h5]; cases (decide (j.ux = 0) && decide (j.uy = 0)) <;> cases j.em <;> cases j.el <;> rfl
    ·rw [if_neg (by omega),decide_eq_false h5]; cases (decide (j.ux = 0) && decide (j.uy = 0)) <;> cases j.em <;> cases j.el <;> rfl
theorem c_rjval (j : Jt) : PCall Tryz.prog 129 [.agg [.i j.id,.i j.kd,.i j.ba,.i j.bb,.i j.ax,.i j.ay,.i j.bx,.i j.byy,.i j.ux,.i j.uy,.i j.ra,.b j.el,.i j.lo,.i j.up,.b j.em,.i j.ms,.i j.mf,.i j.so,.i j.br,.b j.cc,.i j.i0,.i j.i1,.i j.i2,.i j.i3]] (.i (jval j)):=by
 refine pcall_of hm Tryz.func129 rfl (by kernel_rfl) (by rw [Tryz.ntmps129]; exact Nat.le_of_ble_eq_true rfl) (lt_cons (lt_agg (lt_cons (lt_i _ _) (lt_cons (lt_i _ _) (lt_cons (lt_i _ _) (lt_cons (lt_i _ _) (lt_cons (lt_i _ _) (lt_cons (lt_i _ _) (lt_cons (lt_i _ _) (lt_cons (lt_i _ _) (lt_cons (lt_i _ _) (lt_cons (lt_i _ _) (lt_cons (lt_i _ _) (lt_cons (lt_b _ _) (lt_cons (lt_i _ _) (lt_cons (lt_i _ _) (lt_cons (lt_b _ _) (lt_cons (lt_i _ _) (lt_cons (lt_i _ _) (lt_cons (lt_i _ _) (lt_cons (lt_i _ _) (lt_cons (lt_b _ _) (lt_cons (lt_i _ _) (lt_cons (lt_i _ _) (lt_cons (lt_i _ _) (lt_cons (lt_i _ _) lt_nil))))))))))))))))))))))))) lt_nil) (lt_i _ _) ?_
 rw [Tryz.ntmps129,Tryz.results129]
 have i1 : HasC Tryz.prog 199 [.agg [.i j.id,.i j.kd,.i j.ba,.i j.bb,.i j.ax,.i j.ay,.i j.bx,.i j.byy,.i j.ux,.i j.uy,.i j.ra,.b j.el,.i j.lo,.i j.up,.b j.em,.i j.ms,.i j.mf,.i j.so,.i j.br,.b j.cc,.i j.i0,.i j.i1,.i j.i2,.i j.i3]] (.b (jR j)):=⟨c_rjR j⟩
 have i2 : HasC Tryz.prog 201 [.agg [.i j.ux,.i j.uy]] (.i (vlen j.ux j.uy)):=⟨c_rvlen j.ux j.uy⟩
 have e14:=rj14 j
 have e15:=rj15 j _ rfl
 have hv : jval j = if j.kd < 1 ∨ 5 < j.kd then 10 else if jR j = false then 6 else if jB j = false then 14 else if jC j = true then 15 else 0:=rfl
 rw [hv]
 clear hv
 generalize vlen j.ux j.uy = vl at *
 generalize jB j = B at *
 generalize jC j = Cc at *
 generalize jR j = R at *
 by_cases hk : j.kd < 1 ∨ 5 < j.kd
 ·have d1 : (decide (j.kd < 1) || decide (5 < j.kd)) = true:=by rcases hk with h|h <;> simp [h]
  rw [if_pos hk]
  repeat' (first|simp only [go_sem,↓reduceIte,Nat.reduceLT,Nat.reduceEqDiff,Nat.reduceAdd,Nat.reduceLeDiff,reduceCtorEq,d1])
  all_goals (try (rename_i h2 h3; rw [h2,h3]; rfl))
  all_goals (try rfl)
 ·have d1 : (decide (j.kd < 1) || decide (5 < j.kd)) = false:=by simp; omega
  rw [if_neg hk]
  cases R with
  | false=>
   repeat' (first|simp only [go_sem,↓reduceIte,Nat.reduceLT,Nat.reduceEqDiff,Nat.reduceAdd,Nat.reduceLeDiff,reduceCtorEq,d1]|refine cst_go ?_)
   all_goals (try (rename_i h2 h3; rw [h2,h3]; rfl))
   all_goals (try rfl)
  | true=>
   cases B with
   | false=>
    repeat' (first|simp only [go_sem,↓reduceIte,Nat.reduceLT,Nat.reduceEqDiff,Nat.reduceAdd,Nat.reduceLeDiff,reduceCtorEq,d1,e14]|refine cst_go ?_|refine gcst_go ?_|refine And.intro ?_ ?_|(intro (_ : _ = _)))
    all_goals (try (rename_i h2 h3; rw [h2,h3]; rfl))
    all_goals (try rfl)
   | true=>
    cases h1 : (decide (j.kd = 3) && !inR vl 65520 65552 || !decide (j.kd = 3) && !(decide (j.ux = 0) && decide (j.uy = 0))) with
    | true=>
     rw [h1,Bool.true_or] at e15
     subst e15
     repeat' (first|simp only [go_sem,↓reduceIte,Nat.reduceLT,Nat.reduceEqDiff,Nat.reduceAdd,Nat.reduceLeDiff,reduceCtorEq,d1,e14,h1]|refine cst_go ?_|refine gcst_go ?_|refine And.intro ?_ ?_|(intro (_ : _ = _)))
     all_goals (try (rename_i h2 h3; rw [h2,h3]; rfl))
     all_goals (try rfl)
    | false=>
     rw [h1,Bool.false_or] at e15
     repeat' (first|simp only [go_sem,↓reduceIte,Nat.reduceLT,Nat.reduceEqDiff,Nat.reduceAdd,Nat.reduceLeDiff,reduceCtorEq,d1,e14,h1,e15]|refine cst_go ?_|refine gcst_go ?_|refine acond_split (fun _=>?_) (fun _=>?_)|refine And.intro ?_ ?_|(intro (_ : _ = _)))
     all_goals (try (rename_i h2; rw [h2]; rfl))
     all_goals (try (rename_i h2 h3; rw [h2,h3]; rfl))
     all_goals (try rfl)
end Go.Proofs.YtplmagdbnbijlaaGreat
/-
 Lists of keys in one. Conditions: none.
-/
namespace Go.Proofs.YtplmagdbnbijlaaGreat
open Go.RowKit Go.AL Go.Carom Go.Shelf Go.Lib
def Tryz.growK_ren : Go.Shelf.Ren := ⟨fun | 4 => 259 | n => n, fun | 22 => 27 | 25 => 40 | 3 => 3 | 4 => 4 | 9 => 9 | 20 => 20 | 0 => 0 | n => n, fun | n => n⟩
theorem Tryz.growK : Go.Proofs.Lays8.n4 Tryz.prog Tryz.growK_ren := {
  mixed := by kernel_rfl
  f4 := ⟨Tryz.f259.name, by decide, Tryz.func259.trans (congrArg some (by kernel_rfl))⟩
  t0 := Tryz.underlying0
  a0 := Tryz.isAgg0
  z0 := Tryz.sizeOf0
  v0 := Tryz.zeroValue0
  t3 := Tryz.underlying3
  a3 := Tryz.isAgg3
  z3 := Tryz.sizeOf3
  v3 := Tryz.zeroValue3
  t4 := Tryz.underlying4
  a4 := Tryz.isAgg4
  z4 := Tryz.sizeOf4
  v4 := Tryz.zeroValue4
  t9 := Tryz.underlying9
  a9 := Tryz.isAgg9
  z9 := Tryz.sizeOf9
  v9 := Tryz.zeroValue9
  t20 := Tryz.underlying20
  a20 := Tryz.isAgg20
  z20 := Tryz.sizeOf20
  v20 := Tryz.zeroValue20
  t22 := Tryz.underlying27
  a22 := Tryz.isAgg27
  z22 := Tryz.sizeOf27
  v22 := Tryz.zeroValue27 }
theorem c_concat (k l : List K4) (hk : k.length ≤ 8192) (hl : l.length ≤ 8192) : PCall Tryz.prog 163 [.sl [.sl (k.map K4.v),.sl (l.map K4.v)]] (.sl ((k ++ l).map K4.v)):=by
  refine pcall_of_tr hm Tryz.func163 rfl (by kernel_rfl) Tryz.ntmps163 Tryz.results163 rfl (lt_cons (.sl _ (lt_cons (lt_k4s _ _) (lt_cons (lt_k4s _ _) lt_nil))) lt_nil) (lt_k4s _ _) ?_
  have w1 : IntKind.i64.wrap (0 + (k.length : Int)) = k.length:=by rw [IntKind.wrap_i64]; omega
  have w2 : IntKind.i64.wrap ((k.length : Int) + l.length) = (k.length : Int) + l.length:=by rw [IntKind.wrap_i64]; omega
  have d1 : ((k.length : Int) < 0) = False:=eq_false (by omega)
  have d2 : ((k.length : Int) + l.length < 0) = False:=eq_false (by omega)
  have w3 : IntKind.i64.wrap 1 = 1:=by kernel_rfl
  have w4 : IntKind.i64.wrap 2 = 2:=by kernel_rfl
  have k0 : ((0 : Nat) : Int) = 0:=rfl
  have k1 : ((1 : Nat) : Int) = 1:=rfl
  have k2 : ((2 : Nat) : Int) = 2:=rfl
  refine tr_seqc hm ?_
  repeat' (first|simp only [go_sem,↓reduceIte,Nat.reduceLT,Nat.reduceAdd])
  refine ktr_go (tr_seqc hm ?_)
  repeat' (first|simp only [go_sem,↓reduceIte,Nat.reduceLT,Nat.reduceAdd])
  refine ktr_go (tr_seqc hm ?_)
  repeat' (first|simp only [go_sem,↓reduceIte,Nat.reduceLT,Nat.reduceEqDiff,Nat.reduceAdd,Nat.reduceLeDiff,reduceCtorEq,Int.reduceLT,Int.reduceLE,Int.reduceAdd,Int.reduceToNat,k2,w1,w2,w3,w4,d1,d2]|refine tr_rounds hm (.s (.s (.s .z))) ?_)
  all_goals (try omega)
  refine ktr_go (tr_seqt ?_)
  refine tr_second ⟨.ow 1 0,[(1,.row 40 4 0 [])],1,[]⟩ rfl ?_
  repeat' (first|simp only [go_sem,↓reduceIte,Nat.reduceLT,Nat.reduceEqDiff,Nat.reduceAdd,reduceCtorEq]|refine And.intro ?_ ?_)
  · intro C hP
    exact opS_grow Tryz.growK hP rfl rfl rfl (by kernel_rfl) rfl rfl (show AV.i ((k.length:Int)+l.length) = AV.i ((k.length+l.length : Nat):Int) from by rw [Int.natCast_add]) rfl rfl rfl (by omega) (by decide)
  · refine ktr_go (tr_ac hm ?_)
    repeat' (first|simp only [go_sem,↓reduceIte,Nat.reduceLT,Nat.reduceEqDiff,Nat.reduceAdd,Nat.reduceLeDiff,reduceCtorEq,Int.reduceLT,Int.reduceLE,Int.reduceAdd,Int.reduceToNat,k2,w3,w4]|refine tr_rounds hm (.s (.s (.s .z))) ?_|refine And.intro ?_ ?_)
    all_goals (try omega)
    all_goals first
      | (rw [List.map_append]; done)
      | (intro x hx; obtain ⟨q,_,rfl⟩:=List.mem_map.1 hx; rfl)
      | (intro x hx c hc; obtain ⟨q,_,rfl⟩:=List.mem_map.1 hx
         have hc' : c ∈ [AV.i q.a,AV.i q.fa,AV.i q.b,AV.i q.fb]:=hc
         simp only [List.mem_cons,List.not_mem_nil,or_false] at hc'
         rcases hc' with rfl|rfl|rfl|rfl <;> rfl)
      | trace_state
end Go.Proofs.YtplmagdbnbijlaaGreat
/-
 Comparisons of numbers and keys; valid lists of keys. Conditions: none.
-/
namespace Go.Proofs.YtplmagdbnbijlaaGreat
open Go.RowKit Go.AL Go.Carom
theorem c_nan (a : Int) : PCall Tryz.prog 176 [.i a] (.b false):=by
 refine pcall_of hm Tryz.func176 rfl (by kernel_rfl) (by rw [Tryz.ntmps176]; exact Nat.le_of_ble_eq_true rfl) (lt_cons (lt_i _ _) lt_nil) (lt_b _ _) ?_
 rw [Tryz.ntmps176,Tryz.results176]
 repeat' (first|simp only [go_sem,↓reduceIte,Nat.reduceLT,Nat.reduceEqDiff,Nat.reduceAdd,reduceCtorEq,eq_self])
 all_goals (try rfl)
theorem c_cmp (a b : Int) : PCall Tryz.prog 113 [.i a,.i b] (.i (cmpI a b)):=by
 refine pcall_of hm Tryz.func113 rfl (by kernel_rfl) (by rw [Tryz.ntmps113]; exact Nat.le_of_ble_eq_true rfl) (lt_cons (lt_i _ _) (lt_cons (lt_i _ _) lt_nil)) (lt_i _ _) ?_
 rw [Tryz.ntmps113,Tryz.results113]
 have i1 : HasC Tryz.prog 176 [.i a] (.b false):=⟨c_nan a⟩
 have i2 : HasC Tryz.prog 176 [.i b] (.b false):=⟨c_nan b⟩
 repeat' (first|simp only [go_sem,↓reduceIte,Nat.reduceLT,Nat.reduceEqDiff,Nat.reduceAdd,reduceCtorEq,Int.reduceNeg]|refine cst_go ?_|refine acond_split (fun _=>?_) (fun _=>?_))
 all_goals (try simp only [decide_eq_true_eq,decide_eq_false_iff_not] at *)
 all_goals (refine leaf_i ?_; unfold cmpI; (try split) <;> (try split) <;> omega)
theorem c_or4 (a b c d : Int) : PCall Tryz.prog 112 [.sl [.i a,.i b,.i c,.i d]] (.i (or4 a b c d)):=by
 refine pcall_of hm Tryz.func112 rfl (by kernel_rfl) (by rw [Tryz.ntmps112]; exact Nat.le_of_ble_eq_true rfl) (lt_cons (.sl _ (lt_cons (lt_i _ _) (lt_cons (lt_i _ _) (lt_cons (lt_i _ _) (lt_cons (lt_i _ _) lt_nil))))) lt_nil) (lt_i _ _) ?_
 rw [Tryz.ntmps112,Tryz.results112]
 have k0 : ((0 : Nat) : Int) = 0:=rfl
 have k1 : ((1 : Nat) : Int) = 1:=rfl
 have k2 : ((2 : Nat) : Int) = 2:=rfl
 have k3 : ((3 : Nat) : Int) = 3:=rfl
 have k4 : ((4 : Nat) : Int) = 4:=rfl
 have w1 : IntKind.i64.wrap 1 = 1:=by kernel_rfl
 have w2 : IntKind.i64.wrap 2 = 2:=by kernel_rfl
 have w3 : IntKind.i64.wrap 3 = 3:=by kernel_rfl
 have w4 : IntKind.i64.wrap 4 = 4:=by kernel_rfl
 repeat' (first|simp only [go_sem,↓reduceIte,Nat.reduceLT,Nat.reduceEqDiff,Nat.reduceAdd,Nat.reduceLeDiff,reduceCtorEq,Int.reduceLT,Int.reduceLE,Int.reduceAdd,Int.reduceToNat,k4,w1,w2,w3,w4]|refine tr_rounds hm (.s (.s (.s (.s (.s .z))))) ?_|refine acond_split (fun _=>?_) (fun _=>?_))
 all_goals (try simp only [decide_eq_true_eq,decide_eq_false_iff_not,Bool.not_eq_true',Bool.not_eq_false'] at *)
 all_goals (refine leaf_i ?_; unfold or4 orI; (try split) <;> (try split) <;> (try split) <;> omega)
theorem c_cmpK (a b : K4) : PCall Tryz.prog 62 [.agg [.i a.a,.i a.fa,.i a.b,.i a.fb],.agg [.i b.a,.i b.fa,.i b.b,.i b.fb]] (.i (cmpK a b)):=by
 refine pcall_of hm Tryz.func62 rfl (by kernel_rfl) (by rw [Tryz.ntmps62]; exact Nat.le_of_ble_eq_true rfl) (lt_cons (lt_agg (lt_cons (lt_i _ _) (lt_cons (lt_i _ _) (lt_cons (lt_i _ _) (lt_cons (lt_i _ _) lt_nil))))) (lt_cons (lt_agg (lt_cons (lt_i _ _) (lt_cons (lt_i _ _) (lt_cons (lt_i _ _) (lt_cons (lt_i _ _) lt_nil))))) lt_nil)) (lt_i _ _) ?_
 rw [Tryz.ntmps62,Tryz.results62]
 have i0 : HasC Tryz.prog 113 [.i a.a,.i b.a] (.i (cmpI a.a b.a)):=⟨c_cmp _ _⟩
 have i1 : HasC Tryz.prog 113 [.i a.fa,.i b.fa] (.i (cmpI a.fa b.fa)):=⟨c_cmp _ _⟩
 have i2 : HasC Tryz.prog 113 [.i a.b,.i b.b] (.i (cmpI a.b b.b)):=⟨c_cmp _ _⟩
 have i3 : HasC Tryz.prog 113 [.i a.fb,.i b.fb] (.i (cmpI a.fb b.fb)):=⟨c_cmp _ _⟩
 have i5 : HasC Tryz.prog 112 [.sl [.i (cmpI a.a b.a),.i (cmpI a.fa b.fa),.i (cmpI a.b b.b),.i (cmpI a.fb b.fb)]] (.i (cmpK a b)):=⟨c_or4 _ _ _ _⟩
 repeat' (first|simp only [go_sem,↓reduceIte,Nat.reduceLT,Nat.reduceEqDiff,Nat.reduceAdd,Nat.reduceLeDiff,Nat.reduceMul,reduceCtorEq]|refine cst_go ?_|(refine regOk_go ?_; kernel_rfl))
 all_goals (try rfl)
 all_goals (try decide)
theorem c_kless (a b : K4) : PCall Tryz.prog 25 [.agg [.i a.a,.i a.fa,.i a.b,.i a.fb],.agg [.i b.a,.i b.fa,.i b.b,.i b.fb]] (.b (k4l a b)):=by
 refine pcall_of hm Tryz.func25 rfl (by kernel_rfl) (by rw [Tryz.ntmps25]; exact Nat.le_of_ble_eq_true rfl) (lt_cons (lt_agg (lt_cons (lt_i _ _) (lt_cons (lt_i _ _) (lt_cons (lt_i _ _) (lt_cons (lt_i _ _) lt_nil))))) (lt_cons (lt_agg (lt_cons (lt_i _ _) (lt_cons (lt_i _ _) (lt_cons (lt_i _ _) (lt_cons (lt_i _ _) lt_nil))))) lt_nil)) (lt_b _ _) ?_
 rw [Tryz.ntmps25,Tryz.results25]
 have i1 : HasC Tryz.prog 62 [.agg [.i a.a,.i a.fa,.i a.b,.i a.fb],.agg [.i b.a,.i b.fa,.i b.b,.i b.fb]] (.i (cmpK a b)):=⟨c_cmpK a b⟩
 repeat' (first|simp only [go_sem,↓reduceIte,Nat.reduceLT,Nat.reduceEqDiff,Nat.reduceAdd,Nat.reduceLeDiff,reduceCtorEq]|refine cst_go ?_)
 all_goals (try (refine leaf_b ?_; rw [← cmpK_lt]))
theorem c_rkless (a b : K4) : PCall Tryz.prog 26 [.agg [.i a.a,.i a.fa,.i a.b,.i a.fb],.agg [.i b.a,.i b.fa,.i b.b,.i b.fb]] (.b (k4l a b)):=by
 refine pcall_of hm Tryz.func26 rfl (by kernel_rfl) (by rw [Tryz.ntmps26]; exact Nat.le_of_ble_eq_true rfl) (lt_cons (lt_agg (lt_cons (lt_i _ _) (lt_cons (lt_i _ _) (lt_cons (lt_i _ _) (lt_cons (lt_i _ _) lt_nil))))) (lt_cons (lt_agg (lt_cons (lt_i _ _) (lt_cons (lt_i _ _) (lt_cons (lt_i _ _) (lt_cons (lt_i _ _) lt_nil))))) lt_nil)) (lt_b _ _) ?_
 rw [Tryz.ntmps26,Tryz.results26]
 repeat' (first|simp only [go_sem,↓reduceIte,Nat.reduceLT,Nat.reduceEqDiff,Nat.reduceAdd,Nat.reduceLeDiff,reduceCtorEq]|refine acond_split (fun _=>?_) (fun _=>?_))
 all_goals (try simp only [decide_eq_true_eq,decide_eq_false_iff_not,Bool.not_eq_true',Bool.not_eq_false'] at *)
 all_goals (refine leaf_b ?_; rw [Bool.eq_iff_iff,k4l_iff,decide_eq_true_eq]; omega)
theorem c_k4ok (k : K4) : PCall Tryz.prog 69 [.agg [.i k.a,.i k.fa,.i k.b,.i k.fb]] (.b (k4ok k)):=by
 refine pcall_of hm Tryz.func69 rfl (by kernel_rfl) (by rw [Tryz.ntmps69]; exact Nat.le_of_ble_eq_true rfl) (lt_cons (lt_agg (lt_cons (lt_i _ _) (lt_cons (lt_i _ _) (lt_cons (lt_i _ _) (lt_cons (lt_i _ _) lt_nil))))) lt_nil) (lt_b _ _) ?_
 rw [Tryz.ntmps69,Tryz.results69]
 repeat' (first|simp only [go_sem,↓reduceIte,Nat.reduceLT,Nat.reduceEqDiff,Nat.reduceAdd,Nat.reduceLeDiff,reduceCtorEq])
 all_goals (try simp only [decide_eq_true_eq,decide_eq_false_iff_not,Bool.or_eq_true,Bool.or_eq_false_iff,Bool.and_eq_true,Bool.and_eq_false_iff,Bool.not_eq_true',Bool.not_eq_false'] at *)
 all_goals (refine leaf_b ?_; rw [Bool.eq_iff_iff]; unfold k4ok inR; simp; omega)
end Go.Proofs.YtplmagdbnbijlaaGreat
/-
 Valid lists of keys,saturated numbers,valid manifolds. Conditions: none.
-/
namespace Go.Proofs.YtplmagdbnbijlaaGreat
open Go.RowKit Go.AL Go.Carom
theorem c_vkeys (l : List K4) (hl : l.length ≤ maxLen) : PCall Tryz.prog 27 [.sl (l.map K4.v)] (.b (vkeys l)):=by
 refine pcall_of hm Tryz.func27 rfl (by kernel_rfl) (by rw [Tryz.ntmps27]; exact Nat.le_of_ble_eq_true rfl) (lt_cons (lt_k4s _ _) lt_nil) (lt_b _ _) ?_
 rw [Tryz.ntmps27,Tryz.results27]
 repeat' (first|simp only [go_sem,↓reduceIte,Nat.reduceLT,Nat.reduceEqDiff,Nat.reduceAdd,Nat.reduceLeDiff,reduceCtorEq])
 refine tr_lp hm [3,7,8] [] (fun x' : LS (l.length) (vkI l)=>[(9,.i x'.i)]) (fun x' : LS (l.length) (vkI l)=>[(0,.var (.agg [.i (kPrev l x'.i).a,.i (kPrev l x'.i).fa,.i (kPrev l x'.i).b,.i (kPrev l x'.i).fb]))]) (fun x'=>l.length - x'.i) (LS.start _ _) ?_ ?_ ?_
 ·repeat' (first|exact tw_nil|refine tw_cons rfl ?_ ?_|exact lt_i _ _|exact Lt.pt _ _ (by decide)|exact lt_k4s _ _)
 ·repeat' (first|exact hw_nil|refine hw_cons (by decide) rfl bwk_rfl ?_ ?_|exact lt_i _ _|refine lt_agg ?_|exact lt_nil|refine lt_cons ?_ ?_)
 ·rintro ⟨i,hi,hh⟩
  by_cases hlt : i < l.length
  ·have e1:=ilt hlt
   have e2:=isucc hlt hl
   have e3:=k4_getD hlt
   have hv:=vkI_p l i
   unfold k4e at hv
   have j1 : HasC Tryz.prog 69 [.agg [.i (l.getD i K4.o).a,.i (l.getD i K4.o).fa,.i (l.getD i K4.o).b,.i (l.getD i K4.o).fb]] (.b (k4ok (l.getD i K4.o))):=⟨c_k4ok _⟩
   have j2 : HasC Tryz.prog 25 [.agg [.i (kPrev l i).a,.i (kPrev l i).fa,.i (kPrev l i).b,.i (kPrev l i).fb],.agg [.i (l.getD i K4.o).a,.i (l.getD i K4.o).fa,.i (l.getD i K4.o).b,.i (l.getD i K4.o).fb]] (.b (k4l (kPrev l i) (l.getD i K4.o))):=⟨c_kless _ _⟩
   repeat' (first|simp only [go_sem,↓reduceIte,Nat.reduceLT,Nat.reduceEqDiff,Nat.reduceAdd,Nat.reduceLeDiff,reduceCtorEq,e1,e2,e3,hv]|refine cst_go ?_|refine gcst_go ?_|refine acond_split (fun _=>?_) (fun _=>?_)|refine And.intro ?_ ?_|(intro (_ : _ = _)))
   all_goals (try omega)
   all_goals (try (rename_i h1; rw [h1]; done))
   all_goals (try (rename_i h1 h2; rw [h1,h2]; rfl))
   all_goals (try (rename_i h1 h2 h3; rw [h1,h2,h3]; rfl))
   all_goals (try (rename_i h1 h2 h3 h4; rw [h1,h2,h3,h4]; rfl))
   ·rename_i hc
    refine leaf_b ?_; exact (LS.fail hlt (by simpa using hc)).symm
   ·rename_i hc
    refine ⟨LS.next hlt hh (by simpa using hc),Nat.sub_lt_sub_left hlt (Nat.lt_succ_self _),wk_go (by decide) ?_ ?_⟩
    ·repeat' (first|exact tw_nil|refine tw_cons rfl ?_ ?_|exact lt_i _ _|exact Lt.pt _ _ (by decide)|exact lt_k4s _ _)
    ·repeat' (first|exact hw_nil|refine hw_cons (by decide) rfl bwk_rfl ?_ ?_|exact lt_i _ _|refine lt_agg ?_|exact lt_nil|refine lt_cons ?_ ?_)
  ·have f1:=inlt hlt
   have hd:=LS.done hlt hh
   repeat' (first|simp only [go_sem,↓reduceIte,Nat.reduceLT,Nat.reduceEqDiff,Nat.reduceAdd,f1])
   all_goals (refine leaf_b ?_; unfold vkeys; rw [hd])
theorem rk5 (k : K4) : (((((decide (k.b ≤ k.a) || decide (k.fa < 0)) || decide (3 < k.fa)) || decide (k.fb < 0)) || decide (3 < k.fb)) = !k4ok k):=by
 rw [Bool.eq_iff_iff]; unfold k4ok inR; simp; omega
theorem vkI_z (l : List K4) : vkI l 0 = k4ok (l.getD 0 K4.o):=by unfold vkI; simp
theorem vkI_s (l : List K4) (i : Nat) : vkI l (i + 1) = (k4ok (l.getD (i + 1) K4.o) && k4l (l.getD i K4.o) (l.getD (i + 1) K4.o)):=by unfold vkI; rw [kPrev_s]; simp
theorem c_rvkeys (l : List K4) (hl : l.length ≤ maxLen) : PCall Tryz.prog 28 [.sl (l.map K4.v)] (.b (vkeys l)):=by
 refine pcall_of hm Tryz.func28 rfl (by kernel_rfl) (by rw [Tryz.ntmps28]; exact Nat.le_of_ble_eq_true rfl) (lt_cons (lt_k4s _ _) lt_nil) (lt_b _ _) ?_
 rw [Tryz.ntmps28,Tryz.results28]
 repeat' (first|simp only [go_sem,↓reduceIte,Nat.reduceLT,Nat.reduceAdd])
 refine tr_lp hm [0] [] (fun x' : LS l.length (vkI l)=>[(3,.i x'.i)]) (fun x' : LS l.length (vkI l)=>[]) (fun x'=>l.length - x'.i) (LS.start _ _) ?_ ?_ ?_
 ·repeat' (first|exact tw_nil|refine tw_cons rfl ?_ ?_|exact lt_i _ _|exact lt_k4s _ _)
 ·repeat' (first|exact hw_nil)
 ·rintro ⟨i,hi,hh⟩
  by_cases hlt : i < l.length
  ·have e1:=ilt hlt
   have e2:=isucc hlt hl
   cases i with
   | zero=>
    have e3:=k4_getD hlt
    have r5:=rk5 (l.getD 0 K4.o)
    have hz:=vkI_z l
    have k0 : ((0 : Nat) : Int) = 0:=rfl
    have d0 : ((0 : Int) < (l.length : Int)) = True:=eq_true (by omega)
    repeat' (first|simp only [go_sem,↓reduceIte,Nat.reduceLT,Nat.reduceEqDiff,Nat.reduceAdd,Nat.reduceLeDiff,reduceCtorEq,Int.reduceLT,Int.reduceLE,Int.reduceAdd,Int.reduceToNat,e3,r5,k0,d0]|refine gcst_deadb ?_|(refine regOk_go ?_; kernel_rfl)|refine acond_split (fun _=>?_) (fun _=>?_)|refine And.intro ?_ ?_)
    all_goals (try omega)
    ·rename_i hc
     refine leaf_b ?_; exact (LS.fail hlt (by rw [hz]; simpa using hc)).symm
    ·rename_i hc
     refine ⟨LS.next hlt hh (by rw [hz]; simpa using hc),Nat.sub_lt_sub_left hlt (Nat.lt_succ_self _),wk_go (by decide) ?_ ?_⟩
     ·repeat' (first|exact tw_nil|refine tw_cons rfl ?_ ?_|exact lt_i _ _|exact lt_k4s _ _)
     ·repeat' (first|exact hw_nil)
   | succ k=>
    have e3:=k4_getD hlt
    have e4:=k4_getD (show k < l.length by omega)
    have r5:=rk5 (l.getD (k + 1) K4.o)
    have hz:=vkI_s l k
    have w1 : IntKind.i64.wrap (((k + 1 : Nat) : Int) - 1) = (k : Int):=by rw [IntKind.wrap_i64]; unfold maxLen at hl; omega
    have d0 : decide ((0 : Int) < ((k + 1 : Nat) : Int)) = true:=decide_eq_true (by omega)
    have d1 : ((0 : Int) < ((k + 1 : Nat) : Int)) = True:=eq_true (by omega)
    have j2 : HasC Tryz.prog 26 [.agg [.i (l.getD k K4.o).a,.i (l.getD k K4.o).fa,.i (l.getD k K4.o).b,.i (l.getD k K4.o).fb],.agg [.i (l.getD (k + 1) K4.o).a,.i (l.getD (k + 1) K4.o).fa,.i (l.getD (k + 1) K4.o).b,.i (l.getD (k + 1) K4.o).fb]] (.b (k4l (l.getD k K4.o) (l.getD (k + 1) K4.o))):=⟨c_rkless _ _⟩
    repeat' (first|simp only [go_sem,↓reduceIte,Nat.reduceLT,Nat.reduceEqDiff,Nat.reduceAdd,Nat.reduceLeDiff,reduceCtorEq,e1,e2,e3,e4,r5,w1,d1]|refine gcst_go ?_|(refine regOk_go ?_; kernel_rfl)|refine acond_split (fun _=>?_) (fun _=>?_)|refine And.intro ?_ ?_|(intro (_ : _ = _)))
    all_goals (try omega)
    ·rename_i hc
     refine leaf_b ?_; exact (LS.fail hlt (by rw [hz]; revert hc; cases k4ok (l.getD (k + 1) K4.o) <;> cases k4l (l.getD k K4.o) (l.getD (k + 1) K4.o) <;> decide)).symm
    ·rename_i hc
     refine ⟨LS.next hlt hh (by rw [hz]; revert hc; cases k4ok (l.getD (k + 1) K4.o) <;> cases k4l (l.getD k K4.o) (l.getD (k + 1) K4.o) <;> decide),Nat.sub_lt_sub_left hlt (Nat.lt_succ_self _),wk_go (by decide) ?_ ?_⟩
     ·repeat' (first|exact tw_nil|refine tw_cons rfl ?_ ?_|exact lt_i _ _|exact lt_k4s _ _)
     ·repeat' (first|exact hw_nil)
  ·have f1:=inlt hlt
   have hd:=LS.done hlt hh
   repeat' (first|simp only [go_sem,↓reduceIte,Nat.reduceLT,Nat.reduceEqDiff,Nat.reduceAdd,reduceCtorEq,f1])
   all_goals (refine leaf_b ?_; unfold vkeys; rw [hd])
theorem c_r25sat (x y : Int) : PCall Tryz.prog 203 [.agg [.i x,.i y]] (.b (satI x && satI y)):=by
 refine pcall_of hm Tryz.func203 rfl (by kernel_rfl) (by rw [Tryz.ntmps203]; exact Nat.le_of_ble_eq_true rfl) (lt_cons (lt_agg (lt_cons (lt_i _ _) (lt_cons (lt_i _ _) lt_nil))) lt_nil) (lt_b _ _) ?_
 rw [Tryz.ntmps203,Tryz.results203]
 repeat' (first|simp only [go_sem,↓reduceIte,Nat.reduceLT,Nat.reduceEqDiff,Nat.reduceAdd,Nat.reduceLeDiff,reduceCtorEq,Int.reduceNeg]|refine cst_go ?_|refine gcst_go ?_)
 all_goals (try rfl)
instance (x y : Int) : HasC Tryz.prog 203 [.agg [.i x,.i y]] (.b (satI x && satI y)):=⟨c_r25sat x y⟩
theorem c_sat1 (x : Int) : PCall Tryz.prog 333 [.i x] (.b (!satI x)):=by
 refine pcall_of hm Tryz.func333 rfl (by kernel_rfl) (by rw [Tryz.ntmps333]; exact Nat.le_of_ble_eq_true rfl) (lt_cons (lt_i _ _) lt_nil) (lt_b _ _) ?_
 rw [Tryz.ntmps333,Tryz.results333]
 repeat' (first|simp only [go_sem,↓reduceIte,Nat.reduceLT,Nat.reduceAdd,reduceCtorEq,Int.reduceNeg]|refine cst_go ?_)
 all_goals (try rfl)
instance (x : Int) : HasC Tryz.prog 333 [.i x] (.b (!satI x)):=⟨c_sat1 x⟩
theorem fidx_all (n : Nat) (good : Nat → Bool) : (!decide (0 ≤ fidx n good)) = (List.range n).all good:=by
 rcases fidx_cases n good with ⟨he,hall⟩|⟨m,hm,he,hg,_⟩
 ·rw [he,LS.done (Nat.lt_irrefl n) hall]; rfl
 ·rw [he,LS.fail hm hg,decide_eq_true (by omega)]; rfl
theorem sat2 (x y : Int) : (!decide (0 ≤ fidx 2 (fun i=>satI ([x,y].getD i 0)))) = (satI x && satI y):=by rw [fidx_all]; simp [List.range_succ]
theorem sat6 (a b c d e f : Int) : (!decide (0 ≤ fidx 6 (fun i=>satI ([a,b,c,d,e,f].getD i 0)))) = (satI a && satI b && satI c && satI d && satI e && satI f):=by rw [fidx_all]; simp [List.range_succ,Bool.and_assoc]
theorem in_getD {l : List Int} {i : Nat} (h : i < l.length) : (l.map AV.i).getD i .und = .i (l.getD i 0):=getD_map AV.i 0 h
theorem c_ixint (l : List Int) (hl : l.length ≤ maxLen) : PCall Tryz.prog 356 [.sl (l.map AV.i),.clo 333 []] (.i (fidx l.length fun i=>satI (l.getD i 0))):=by
 refine pcall_of hm Tryz.func356 rfl (by kernel_rfl) (by rw [Tryz.ntmps356]; exact Nat.le_of_ble_eq_true rfl) (lt_cons (.sl _ (lt_map (fun _=>lt_i _ _))) (lt_cons (.clo _ _ lt_nil) lt_nil)) (lt_i _ _) ?_
 rw [Tryz.ntmps356,Tryz.results356]
 repeat' (first|simp only [go_sem,↓reduceIte,Nat.reduceLT,Nat.reduceAdd,reduceCtorEq,Int.reduceNeg])
 refine tr_lp hm [0,1,7] [] (fun x' : LS (l.length) (fun i=>satI (l.getD i 0))=>[(8,.i x'.i)]) (fun x' : LS (l.length) (fun i=>satI (l.getD i 0))=>[]) (fun x'=>l.length - x'.i) (LS.start _ _) ?_ ?_ ?_
 ·repeat' (first|exact tw_nil|refine tw_cons rfl ?_ ?_|exact lt_i _ _|exact lt_nil|refine Lt.clo _ _ ?_|refine lt_map (fun _=>?_)|refine Lt.sl _ ?_)
 ·repeat' (first|exact hw_nil)
 ·rintro ⟨i,hi,hh⟩
  by_cases hlt : i < l.length
  ·have e1:=ilt hlt
   have e2:=isucc hlt hl
   have e3:=in_getD hlt
   repeat' (first|simp only [go_sem,↓reduceIte,Nat.reduceLT,Nat.reduceEqDiff,Nat.reduceAdd,Nat.reduceLeDiff,reduceCtorEq,Int.reduceNeg,e1,e2,e3]|refine cst_go ?_|refine acond_split (fun _=>?_) (fun _=>?_))
   all_goals (try omega)
   ·rename_i hc
    refine leaf_i ?_
    exact (fidx_hit hlt hh (by simpa using hc)).symm
   ·rename_i hc
    refine ⟨LS.next hlt hh (by simpa using hc),Nat.sub_lt_sub_left hlt (Nat.lt_succ_self _),wk_go (by decide) ?_ ?_⟩
    ·repeat' (first|exact tw_nil|refine tw_cons rfl ?_ ?_|exact lt_i _ _|exact lt_nil|refine Lt.clo _ _ ?_|refine lt_map (fun _=>?_)|refine Lt.sl _ ?_)
    ·repeat' (first|exact hw_nil)
  ·have f1:=inlt hlt
   repeat' (first|simp only [go_sem,↓reduceIte,Nat.reduceLT,Nat.reduceEqDiff,Nat.reduceAdd,reduceCtorEq,Int.reduceNeg,f1])
   all_goals (refine leaf_i ?_; exact (fidx_none hlt (by omega) hh).symm)
theorem c_sat2c (x y : Int) : PCall Tryz.prog 332 [.sl [.i x,.i y],.clo 333 []] (.b (decide (0 ≤ (fidx 2 fun i=>satI ([x,y].getD i 0))))):=by
 refine pcall_of hm Tryz.func332 rfl (by kernel_rfl) (by rw [Tryz.ntmps332]; exact Nat.le_of_ble_eq_true rfl) (lt_cons (.sl _ (lt_cons (lt_i _ _) (lt_cons (lt_i _ _) lt_nil))) (lt_cons (.clo _ _ lt_nil) lt_nil)) (lt_b _ _) ?_
 rw [Tryz.ntmps332,Tryz.results332]
 have i1 : HasC Tryz.prog 356 [.sl [.i x,.i y],.clo 333 []] (.i (fidx 2 fun i=>satI ([x,y].getD i 0))):=⟨c_ixint [x,y] (by simp [maxLen])⟩
 generalize (fidx 2 fun i=>satI ([x,y].getD i 0)) = q at *
 repeat' (first|simp only [go_sem,↓reduceIte,Nat.reduceLT,Nat.reduceEqDiff,Nat.reduceAdd,reduceCtorEq]|refine cst_go ?_)
 all_goals (try rfl)
theorem c_sat2 (x y : Int) : PCall Tryz.prog 255 [.sl [.i x,.i y]] (.b (satI x && satI y)):=by
 refine pcall_of hm Tryz.func255 rfl (by kernel_rfl) (by rw [Tryz.ntmps255]; exact Nat.le_of_ble_eq_true rfl) (lt_cons (.sl _ (lt_cons (lt_i _ _) (lt_cons (lt_i _ _) lt_nil))) lt_nil) (lt_b _ _) ?_
 rw [Tryz.ntmps255,Tryz.results255]
 have i1 : HasC Tryz.prog 332 [.sl [.i x,.i y],.clo 333 []] (.b (decide (0 ≤ (fidx 2 fun i=>satI ([x,y].getD i 0))))):=⟨c_sat2c x y⟩
 rw [← sat2 x y]
 generalize (fidx 2 fun i=>satI ([x,y].getD i 0)) = q at *
 repeat' (first|simp only [go_sem,↓reduceIte,Nat.reduceLT,Nat.reduceAdd,reduceCtorEq]|refine cst_go ?_)
 all_goals (try rfl)
theorem c_sat6c (a b c d e f : Int) : PCall Tryz.prog 332 [.sl [.i a,.i b,.i c,.i d,.i e,.i f],.clo 333 []] (.b (decide (0 ≤ (fidx 6 fun i=>satI ([a,b,c,d,e,f].getD i 0))))):=by
 refine pcall_of hm Tryz.func332 rfl (by kernel_rfl) (by rw [Tryz.ntmps332]; exact Nat.le_of_ble_eq_true rfl) (lt_cons (.sl _ (lt_cons (lt_i _ _) (lt_cons (lt_i _ _) (lt_cons (lt_i _ _) (lt_cons (lt_i _ _) (lt_cons (lt_i _ _) (lt_cons (lt_i _ _) lt_nil))))))) (lt_cons (.clo _ _ lt_nil) lt_nil)) (lt_b _ _) ?_
 rw [Tryz.ntmps332,Tryz.results332]
 have i1 : HasC Tryz.prog 356 [.sl [.i a,.i b,.i c,.i d,.i e,.i f],.clo 333 []] (.i (fidx 6 fun i=>satI ([a,b,c,d,e,f].getD i 0))):=⟨c_ixint [a,b,c,d,e,f] (by simp [maxLen])⟩
 generalize (fidx 6 fun i=>satI ([a,b,c,d,e,f].getD i 0)) = q at *
 repeat' (first|simp only [go_sem,↓reduceIte,Nat.reduceLT,Nat.reduceEqDiff,Nat.reduceAdd,reduceCtorEq]|refine cst_go ?_)
 all_goals (try rfl)
theorem c_sat6 (a b c d e f : Int) : PCall Tryz.prog 255 [.sl [.i a,.i b,.i c,.i d,.i e,.i f]] (.b (satI a && satI b && satI c && satI d && satI e && satI f)):=by
 refine pcall_of hm Tryz.func255 rfl (by kernel_rfl) (by rw [Tryz.ntmps255]; exact Nat.le_of_ble_eq_true rfl) (lt_cons (.sl _ (lt_cons (lt_i _ _) (lt_cons (lt_i _ _) (lt_cons (lt_i _ _) (lt_cons (lt_i _ _) (lt_cons (lt_i _ _) (lt_cons (lt_i _ _) lt_nil))))))) lt_nil) (lt_b _ _) ?_
 rw [Tryz.ntmps255,Tryz.results255]
 have i1 : HasC Tryz.prog 332 [.sl [.i a,.i b,.i c,.i d,.i e,.i f],.clo 333 []] (.b (decide (0 ≤ (fidx 6 fun i=>satI ([a,b,c,d,e,f].getD i 0))))):=⟨c_sat6c a b c d e f⟩
 rw [← sat6 a b c d e f]
 generalize (fidx 6 fun i=>satI ([a,b,c,d,e,f].getD i 0)) = q at *
 repeat' (first|simp only [go_sem,↓reduceIte,Nat.reduceLT,Nat.reduceAdd,reduceCtorEq]|refine cst_go ?_)
 all_goals (try rfl)
end Go.Proofs.YtplmagdbnbijlaaGreat
