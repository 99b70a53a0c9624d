/-
  What the functions of chapter 1 compute. Conditions: none.
-/
import Derived.Test.YtplmagdbnbijlaaGreatTF
import Derived.Test.YtplmagdbnbijlaaGreatMA
import Derived.Outline
import Derived.Test.YtplmagdbnbijlaaGreatAlB
set_option maxHeartbeats 4000000
set_option maxRecDepth 20000
set_option linter.all false
namespace Go.Proofs.YtplmagdbnbijlaaGreat
open Go.RowKit Go.AL Go.Carom
theorem c_sat (x : Int) : PCall Tryz.prog 215 [.i x] (.i (sat x)):=by
 refine pcall_of hm Tryz.func215 rfl (by kernel_rfl) (by rw [Tryz.ntmps215]; exact Nat.le_of_ble_eq_true rfl) (lt_cons (lt_i _ _) lt_nil) (lt_i _ _) ?_
 rw [Tryz.ntmps215,Tryz.results215]
 repeat' (first|simp only [go_sem,↓reduceIte,Nat.reduceLT,Nat.reduceAdd,reduceCtorEq,Int.reduceNeg])
 all_goals (refine leaf_i ?_)
 unfold sat
 (repeat' split) <;> omega
instance (x : Int) : HasC Tryz.prog 215 [.i x] (.i (sat x)):=⟨c_sat x⟩
theorem c_rsat (x : Int) : PCall Tryz.prog 248 [.i x] (.i (sat x)):=by
 refine pcall_of hm Tryz.func248 rfl (by kernel_rfl) (by rw [Tryz.ntmps248]; exact Nat.le_of_ble_eq_true rfl) (lt_cons (lt_i _ _) lt_nil) (lt_i _ _) ?_
 rw [Tryz.ntmps248,Tryz.results248]
 repeat' (first|simp only [go_sem,↓reduceIte,Nat.reduceLT,Nat.reduceAdd,reduceCtorEq,Int.reduceNeg]|refine acond_split (fun _=>?_) (fun _=>?_))
 all_goals (try simp only [decide_eq_true_eq,decide_eq_false_iff_not] at *)
 all_goals (refine leaf_i ?_)
 all_goals (unfold sat; (repeat' split) <;> omega)
instance (x : Int) : HasC Tryz.prog 248 [.i x] (.i (sat x)):=⟨c_rsat x⟩
theorem c_add (x y : Int) : PCall Tryz.prog 180 [.i x,.i y] (.i (fadd x y)):=by
 refine pcall_of hm Tryz.func180 rfl (by kernel_rfl) (by rw [Tryz.ntmps180]; exact Nat.le_of_ble_eq_true rfl) (lt_cons (lt_i _ _) (lt_cons (lt_i _ _) lt_nil)) (lt_i _ _) ?_
 rw [Tryz.ntmps180,Tryz.results180]
 repeat' (first|simp only [go_sem,↓reduceIte,Nat.reduceLT,Nat.reduceEqDiff,Nat.reduceAdd,reduceCtorEq]|refine cst_go ?_)
 all_goals rfl
instance (x y : Int) : HasC Tryz.prog 180 [.i x,.i y] (.i (fadd x y)):=⟨c_add x y⟩
theorem c_sub (x y : Int) : PCall Tryz.prog 140 [.i x,.i y] (.i (fsub x y)):=by
 refine pcall_of hm Tryz.func140 rfl (by kernel_rfl) (by rw [Tryz.ntmps140]; exact Nat.le_of_ble_eq_true rfl) (lt_cons (lt_i _ _) (lt_cons (lt_i _ _) lt_nil)) (lt_i _ _) ?_
 rw [Tryz.ntmps140,Tryz.results140]
 repeat' (first|simp only [go_sem,↓reduceIte,Nat.reduceLT,Nat.reduceEqDiff,Nat.reduceAdd,reduceCtorEq]|refine cst_go ?_)
 all_goals rfl
instance (x y : Int) : HasC Tryz.prog 140 [.i x,.i y] (.i (fsub x y)):=⟨c_sub x y⟩
theorem c_radd (x y : Int) : PCall Tryz.prog 179 [.i x,.i y] (.i (fadd x y)):=by
 refine pcall_of hm Tryz.func179 rfl (by kernel_rfl) (by rw [Tryz.ntmps179]; exact Nat.le_of_ble_eq_true rfl) (lt_cons (lt_i _ _) (lt_cons (lt_i _ _) lt_nil)) (lt_i _ _) ?_
 rw [Tryz.ntmps179,Tryz.results179]
 repeat' (first|simp only [go_sem,↓reduceIte,Nat.reduceLT,Nat.reduceEqDiff,Nat.reduceAdd,reduceCtorEq]|refine cst_go ?_)
 all_goals rfl
instance (x y : Int) : HasC Tryz.prog 179 [.i x,.i y] (.i (fadd x y)):=⟨c_radd x y⟩
theorem c_rsub (x y : Int) : PCall Tryz.prog 178 [.i x,.i y] (.i (fsub x y)):=by
 refine pcall_of hm Tryz.func178 rfl (by kernel_rfl) (by rw [Tryz.ntmps178]; exact Nat.le_of_ble_eq_true rfl) (lt_cons (lt_i _ _) (lt_cons (lt_i _ _) lt_nil)) (lt_i _ _) ?_
 rw [Tryz.ntmps178,Tryz.results178]
 repeat' (first|simp only [go_sem,↓reduceIte,Nat.reduceLT,Nat.reduceEqDiff,Nat.reduceAdd,reduceCtorEq]|refine cst_go ?_)
 all_goals rfl
instance (x y : Int) : HasC Tryz.prog 178 [.i x,.i y] (.i (fsub x y)):=⟨c_rsub x y⟩
theorem c_rnd (n d : Int) : PCall Tryz.prog 292 [.i n,.i d] (.i (rdiv n d)):=by
  refine pcall_of hm Tryz.func292 rfl (by kernel_rfl) (by rw [Tryz.ntmps292]; exact Nat.le_of_ble_eq_true rfl) (lt_cons (lt_i _ _) (lt_cons (lt_i _ _) lt_nil)) (lt_i _ _) ?_
  rw [Tryz.ntmps292,Tryz.results292]
  repeat' (first|simp only [go_sem,↓reduceIte,Nat.reduceLT,Nat.reduceEqDiff,Nat.reduceAdd,reduceCtorEq,Bool.not_eq_true',imp_self,Int.reduceNeg,ne_eq]|(refine regOk_go ?_; kernel_rfl)|refine acond_split (fun _=>?_) (fun _=>?_)|refine And.intro ?_ ?_|(intro (_ : _ = _)))
  all_goals (try simp only [decide_eq_true_eq,decide_eq_false_iff_not,Bool.or_eq_true,Bool.or_eq_false_iff] at *)
  all_goals first
    | omega
    | (refine leaf_i ?_; unfold rdiv; rw [if_pos (by omega)])
    | (have h1:=tmod_bd (n:=n) (d:=d) (by omega)
       have h2:=tdiv_bd (n:=n) (d:=d) (by omega) (by omega) (by omega)
       refine leaf_i ?_
       unfold rdiv
       rw [if_neg (by omega)]
       generalize n.tdiv d = q at *
       generalize n.tmod d = r at *
       rw [w64_id (n:=d - r) (by omega) (by omega)] at *
       try rw [w64_id (n:=d + r) (by omega) (by omega)] at *
       try rw [w64_id (n:=0 - r) (by omega) (by omega)] at *
       rw [w64_id (n:=q) (by omega) (by omega)]
       try rw [w64_id (n:=q + 1) (by omega) (by omega)]
       try rw [w64_id (n:=q - 1) (by omega) (by omega)]
       (repeat' split) <;> omega)
instance (n d : Int) : HasC Tryz.prog 292 [.i n,.i d] (.i (rdiv n d)):=⟨c_rnd n d⟩
theorem c_routr (n : Int) : PCall Tryz.prog 320 [.i n] (.b (decide (n < -4611686018427387904 ∨ 4611686018427387904 < n))):=by
 refine pcall_of hm Tryz.func320 rfl (by kernel_rfl) (by rw [Tryz.ntmps320]; exact Nat.le_of_ble_eq_true rfl) (lt_cons (lt_i _ _) lt_nil) (lt_b _ _) ?_
 rw [Tryz.ntmps320,Tryz.results320]
 repeat' (first|simp only [go_sem,↓reduceIte,Nat.reduceLT,Nat.reduceEqDiff,Nat.reduceAdd,reduceCtorEq,Bool.not_eq_true',imp_self,Int.reduceNeg])
 all_goals (try simp only [decide_eq_true_eq,decide_eq_false_iff_not,Bool.or_eq_true,Bool.or_eq_false_iff,Bool.and_eq_true,Bool.and_eq_false_iff,Bool.not_eq_true',Bool.not_eq_false'] at *)
 all_goals (refine leaf_b ?_)
 all_goals (rw [Bool.eq_iff_iff]; simp; omega)
instance (n : Int) : HasC Tryz.prog 320 [.i n] (.b (decide (n < -4611686018427387904 ∨ 4611686018427387904 < n))):=⟨c_routr n⟩
theorem c_rrnd (n d : Int) : PCall Tryz.prog 240 [.i n,.i d] (.i (rdiv n d)):=by
  refine pcall_of hm Tryz.func240 rfl (by kernel_rfl) (by rw [Tryz.ntmps240]; exact Nat.le_of_ble_eq_true rfl) (lt_cons (lt_i _ _) (lt_cons (lt_i _ _) lt_nil)) (lt_i _ _) ?_
  rw [Tryz.ntmps240,Tryz.results240]
  repeat' (first|simp only [go_sem,↓reduceIte,Nat.reduceLT,Nat.reduceEqDiff,Nat.reduceAdd,reduceCtorEq,Bool.not_eq_true',imp_self,Int.reduceNeg,ne_eq]|refine gcst_go ?_|refine acond_split (fun _=>?_) (fun _=>?_)|refine And.intro ?_ ?_|(intro (_ : _ = _)))
  all_goals (try simp only [decide_eq_true_eq,decide_eq_false_iff_not,Bool.or_eq_true,Bool.or_eq_false_iff] at *)
  all_goals first
    | omega
    | (refine leaf_i ?_; unfold rdiv; rw [if_pos (by omega)])
    | (refine leaf_i ?_
       rename_i ha hb hc hd
       rw [rdiv_ref (by omega) (by omega) (by omega) (by omega)]
       first
         | (have e1 : IntKind.i64.wrap (0 - n) = -n:=by rw [w64_id (by omega) (by omega)]; omega
            have h3:=tmod_bd (n:=-n) (d:=d) (by omega)
            have h4:=tdiv_bd (n:=-n) (d:=d) (by omega) (by omega) (by omega)
            have h6:=Int.tmod_add_tdiv_mul (-n) d
            rw [e1] at hc ⊢
            simp only [if_pos hb]
            generalize (-n).tdiv d = q at *
            rw [w64_id (n:=q) (by omega) (by omega)] at hc
            generalize hqd : q * d = qd at *
            rw [w64_id (n:=qd) (by omega) (by omega)] at hc
            rw [w64_id (n:=-n - qd) (by omega) (by omega)] at hc
            rw [w64_id (n:=d - (-n - qd)) (by omega) (by omega)] at hc
            rw [w64_id (n:=q) (by omega) (by omega)]
            first
              | rw [if_pos hc,w64_id (n:=q + 1) (by omega) (by omega),w64_id (by omega) (by omega)]
              | rw [if_neg hc,w64_id (by omega) (by omega)]
            omega)
         | (have h3:=tmod_bd (n:=n) (d:=d) (by omega)
            have h4:=tdiv_bd (n:=n) (d:=d) (by omega) (by omega) (by omega)
            have h6:=Int.tmod_add_tdiv_mul n d
            simp only [if_neg hb]
            generalize n.tdiv d = q at *
            rw [w64_id (n:=q) (by omega) (by omega)] at hc
            generalize hqd : q * d = qd at *
            rw [w64_id (n:=qd) (by omega) (by omega)] at hc
            rw [w64_id (n:=n - qd) (by omega) (by omega)] at hc
            rw [w64_id (n:=d - (n - qd)) (by omega) (by omega)] at hc
            rw [w64_id (n:=q) (by omega) (by omega)]
            first
              | rw [if_pos hc,w64_id (n:=q + 1) (by omega) (by omega)]
              | rw [if_neg hc])
         | skip)
instance (n d : Int) : HasC Tryz.prog 240 [.i n,.i d] (.i (rdiv n d)):=⟨c_rrnd n d⟩
theorem c_mul (x y : Int) : PCall Tryz.prog 346 [.i x,.i y] (.i (fmul x y)):=by
 refine pcall_of hm Tryz.func346 rfl (by kernel_rfl) (by rw [Tryz.ntmps346]; exact Nat.le_of_ble_eq_true rfl) (lt_cons (lt_i _ _) (lt_cons (lt_i _ _) lt_nil)) (lt_i _ _) ?_
 rw [Tryz.ntmps346,Tryz.results346]
 repeat' (first|simp only [go_sem,↓reduceIte,Nat.reduceLT,Nat.reduceEqDiff,Nat.reduceAdd,reduceCtorEq]|refine cst_go ?_)
 all_goals rfl
instance (x y : Int) : HasC Tryz.prog 346 [.i x,.i y] (.i (fmul x y)):=⟨c_mul x y⟩
theorem c_clamp (x lo hi : Int) : PCall Tryz.prog 360 [.i x,.i lo,.i hi] (.i (fclamp x lo hi)):=by
 refine pcall_of hm Tryz.func360 rfl (by kernel_rfl) (by rw [Tryz.ntmps360]; exact Nat.le_of_ble_eq_true rfl) (lt_cons (lt_i _ _) (lt_cons (lt_i _ _) (lt_cons (lt_i _ _) lt_nil))) (lt_i _ _) ?_
 rw [Tryz.ntmps360,Tryz.results360]
 repeat' (first|simp only [go_sem,↓reduceIte,Nat.reduceLT,Nat.reduceEqDiff,Nat.reduceAdd,reduceCtorEq,Bool.not_eq_true',imp_self]|refine acond_split (fun _=>?_) (fun _=>?_))
 all_goals (try simp only [decide_eq_true_eq,decide_eq_false_iff_not,Bool.or_eq_true,Bool.or_eq_false_iff] at *)
 all_goals (refine leaf_i ?_)
 all_goals (unfold fclamp; (repeat' split) <;> omega)
instance (x lo hi : Int) : HasC Tryz.prog 360 [.i x,.i lo,.i hi] (.i (fclamp x lo hi)):=⟨c_clamp x lo hi⟩
theorem c_fdiv (x y : Int) : PCall Tryz.prog 344 [.i x,.i y] (.i (fdiv x y)):=by
 refine pcall_of hm Tryz.func344 rfl (by kernel_rfl) (by rw [Tryz.ntmps344]; exact Nat.le_of_ble_eq_true rfl) (lt_cons (lt_i _ _) (lt_cons (lt_i _ _) lt_nil)) (lt_i _ _) ?_
 rw [Tryz.ntmps344,Tryz.results344]
 repeat' (first|simp only [go_sem,↓reduceIte,Nat.reduceLT,Nat.reduceEqDiff,Nat.reduceAdd,reduceCtorEq,Int.reduceNeg]|refine cst_go ?_|refine acond_split (fun _=>?_) (fun _=>?_))
 all_goals (try simp only [decide_eq_true_eq,decide_eq_false_iff_not] at *)
 all_goals (refine leaf_i ?_; unfold fdiv)
 ·rw [if_pos (by assumption)]
  have : -1 ≤ fclamp (sat x * 65536) (-1) 1 ∧ fclamp (sat x * 65536) (-1) 1 ≤ 1:=by unfold fclamp; (repeat' split) <;> omega
  rw [w64_id (by omega) (by omega)]
 ·rw [if_neg (by assumption),if_pos (by assumption)]
 ·rw [if_neg (by assumption),if_neg (by assumption)]
instance (x y : Int) : HasC Tryz.prog 344 [.i x,.i y] (.i (fdiv x y)):=⟨c_fdiv x y⟩
theorem c_isqrt (n : Int) : PCall Tryz.prog 288 [.i n] (.i (isqrt n)):=by
 refine pcall_of hm Tryz.func288 rfl (by kernel_rfl) (by rw [Tryz.ntmps288]; exact Nat.le_of_ble_eq_true rfl) (lt_cons (lt_i _ _) lt_nil) (lt_i _ _) ?_
 rw [Tryz.ntmps288,Tryz.results288]
 repeat' (first|simp only [go_sem,↓reduceIte,Nat.reduceLT,Nat.reduceEqDiff,Nat.reduceAdd,reduceCtorEq,Bool.not_eq_true',imp_self]|refine acond_split (fun _=>?_) (fun _=>?_))
 all_goals (try simp only [decide_eq_true_eq,decide_eq_false_iff_not,Bool.or_eq_true,Bool.or_eq_false_iff] at *)
 ·refine leaf_i ?_
  unfold isqrt
  rw [if_pos (by omega)]
 ·rename_i hn
  refine tr_loop hm (ST:=fun x : IS n=>[(4,.i (bitOf x.k)),(3,.i x.r),(0,.i n)]) (SH:=fun _=>[]) 0 (fun x=>x.k) (IS.start n) ?_ ?_
  ·exact wk_go (Nat.le_refl _) (tw_cons rfl (lt_i _ _) (tw_cons rfl (lt_i _ _) (tw_cons rfl (lt_i _ _) tw_nil))) hw_nil
  ·rintro ⟨k,r,hk,hd,h0,h1,he⟩
   cases k with
   | zero=>
    repeat' (first|simp only [go_sem,↓reduceIte,Nat.reduceLT,Nat.reduceEqDiff,Nat.reduceAdd,Int.reduceLT,decide_false,acond_ff,bitOf_zero])
    exact leaf_i (is_done (by omega) (by omega) he)
   | succ k=>
    have ho:=is_or hd h0 h1
    have hp:=is_pos k
    have hs:=is_sq h0 h1
    have e1 : IntKind.u64.wrap (r + 2 ^ k) = r + 2 ^ k:=wu64_id (by omega) (by omega)
    have e2 : IntKind.u64.wrap ((r + 2 ^ k) * (r + 2 ^ k)) = (r + 2 ^ k) * (r + 2 ^ k):=wu64_id (by omega) (by omega)
    have e3 : IntKind.u64.wrap n = n:=wu64_id (by omega) (by omega)
    repeat' (first|simp only [go_sem,↓reduceIte,Nat.reduceLT,Nat.reduceEqDiff,Nat.reduceAdd,reduceCtorEq,Int.reduceLE,decide_true,acond_tt,Int.reduceToNat,bitOf_succ,ho,hp,e1,e2,e3]|refine acond_split (fun _=>?_) (fun _=>?_))
    ·rename_i hc
     exact ⟨IS.up hk hd h0 h1 he (of_decide_eq_true hc),Nat.lt_succ_self _,wk_go (Nat.le_refl _) (tw_cons (leaf_i (bitOf_shr k)) (lt_i _ _) (tw_cons rfl (lt_i _ _) (tw_cons rfl (lt_i _ _) tw_nil))) hw_nil⟩
    ·rename_i hc
     exact ⟨IS.dn hk hd h0 h1 he (of_decide_eq_false hc),Nat.lt_succ_self _,wk_go (Nat.le_refl _) (tw_cons (leaf_i (bitOf_shr k)) (lt_i _ _) (tw_cons rfl (lt_i _ _) (tw_cons rfl (lt_i _ _) tw_nil))) hw_nil⟩
instance (n : Int) : HasC Tryz.prog 288 [.i n] (.i (isqrt n)):=⟨c_isqrt n⟩
theorem c_rmul (x y : Int) : PCall Tryz.prog 319 [.i x,.i y] (.i (fmul x y)):=by
 refine pcall_of hm Tryz.func319 rfl (by kernel_rfl) (by rw [Tryz.ntmps319]; exact Nat.le_of_ble_eq_true rfl) (lt_cons (lt_i _ _) (lt_cons (lt_i _ _) lt_nil)) (lt_i _ _) ?_
 rw [Tryz.ntmps319,Tryz.results319]
 repeat' (first|simp only [go_sem,↓reduceIte,Nat.reduceLT,Nat.reduceEqDiff,Nat.reduceAdd,reduceCtorEq]|refine cst_go ?_)
 all_goals rfl
instance (x y : Int) : HasC Tryz.prog 319 [.i x,.i y] (.i (fmul x y)):=⟨c_rmul x y⟩
theorem c_rfdiv (x y : Int) : PCall Tryz.prog 318 [.i x,.i y] (.i (fdiv x y)):=by
  refine pcall_of hm Tryz.func318 rfl (by kernel_rfl) (by rw [Tryz.ntmps318]; exact Nat.le_of_ble_eq_true rfl) (lt_cons (lt_i _ _) (lt_cons (lt_i _ _) lt_nil)) (lt_i _ _) ?_
  rw [Tryz.ntmps318,Tryz.results318]
  repeat' (first|simp only [go_sem,↓reduceIte,Nat.reduceLT,Nat.reduceEqDiff,Nat.reduceAdd,reduceCtorEq,imp_self,Int.reduceNeg]|refine cst_go ?_|refine acond_split (fun _=>?_) (fun _=>?_))
  all_goals (try simp only [decide_eq_true_eq,decide_eq_false_iff_not,Bool.and_eq_true,Bool.and_eq_false_iff] at *)
  all_goals (refine leaf_i ?_; unfold fdiv fclamp)
  all_goals first
    | (rw [if_pos (by omega)]; (repeat' split) <;> omega)
    | (rw [if_neg (by omega)]; first|rw [if_pos (by omega)]|rw [if_neg (by omega)])
    | (rename_i ha hb hc
       rw [if_pos (by omega)]
       unfold rdiv
       rw [if_pos (by omega),if_neg (by omega),if_neg (by omega)]
       have : sat x = 0:=by omega
       rw [this]; rfl)
    | (rename_i ha hb hc
       by_cases h : sat y = 0
       · have h' : sat x = 0:=by omega
         rw [if_pos h,h,h']; decide
       · rw [if_neg h,if_neg (by omega)])
instance (x y : Int) : HasC Tryz.prog 318 [.i x,.i y] (.i (fdiv x y)):=⟨c_rfdiv x y⟩
theorem c_risqrt (n : Int) : PCall Tryz.prog 286 [.i n] (.i (isqrt n)):=by
 refine pcall_of hm Tryz.func286 rfl (by kernel_rfl) (by rw [Tryz.ntmps286]; exact Nat.le_of_ble_eq_true rfl) (lt_cons (lt_i _ _) lt_nil) (lt_i _ _) ?_
 rw [Tryz.ntmps286,Tryz.results286]
 repeat' (first|simp only [go_sem,↓reduceIte,Nat.reduceLT,Nat.reduceEqDiff,Nat.reduceAdd,reduceCtorEq,Bool.not_eq_true',imp_self,Int.reduceNeg]|refine gcst_go ?_|refine acond_split (fun _=>?_) (fun _=>?_))
 all_goals (try simp only [decide_eq_true_eq,decide_eq_false_iff_not,Bool.or_eq_true,Bool.or_eq_false_iff] at *)
 ·refine leaf_i ?_
  unfold isqrt
  rw [if_pos (by omega)]
 ·rename_i hn
  refine tr_loop hm (ST:=fun x : IS n=>[(4,.i (bitOf x.k)),(3,.i x.r),(0,.i n)]) (SH:=fun _=>[]) 0 (fun x=>x.k) (IS.start n) ?_ ?_
  ·exact wk_go (Nat.le_refl _) (tw_cons rfl (lt_i _ _) (tw_cons rfl (lt_i _ _) (tw_cons rfl (lt_i _ _) tw_nil))) hw_nil
  ·rintro ⟨k,r,hk,hd,h0,h1,he⟩
   cases k with
   | zero=>
    repeat' (first|simp only [go_sem,↓reduceIte,Nat.reduceLT,Nat.reduceEqDiff,Nat.reduceAdd,Int.reduceLT,decide_false,acond_ff,bitOf_zero])
    exact leaf_i (is_done (by omega) (by omega) he)
   | succ k=>
    have hp:=is_pos k
    have hs:=is_sq h0 h1
    have e1 : IntKind.i64.wrap (r + 2 ^ k) = r + 2 ^ k:=w64_id (by omega) (by omega)
    have e0 : (r + 2 ^ k = 0) = False:=by simp; omega
    have hb:=tdiv_bd (n:=n) (d:=r + 2 ^ k) (by omega) (by omega) (by omega)
    have e2 : IntKind.i64.wrap (n.tdiv (r + 2 ^ k)) = n.tdiv (r + 2 ^ k):=w64_id (by omega) (by omega)
    have e3:=is_div (n:=n) (s:=r + 2 ^ k) (by omega) (by omega)
    repeat' (first|simp only [go_sem,↓reduceIte,Nat.reduceLT,Nat.reduceEqDiff,Nat.reduceAdd,reduceCtorEq,Int.reduceEq,decide_true,acond_tt,ne_eq,bitOf_succ,hp,e1,e0,e2,e3,not_false_eq_true]|refine acond_split (fun _=>?_) (fun _=>?_))
    ·rename_i hc
     exact ⟨IS.up hk hd h0 h1 he (of_decide_eq_true hc),Nat.lt_succ_self _,wk_go (Nat.le_refl _) (tw_cons (leaf_i (is_half hk)) (lt_i _ _) (tw_cons rfl (lt_i _ _) (tw_cons rfl (lt_i _ _) tw_nil))) hw_nil⟩
    ·rename_i hc
     exact ⟨IS.dn hk hd h0 h1 he (of_decide_eq_false hc),Nat.lt_succ_self _,wk_go (Nat.le_refl _) (tw_cons (leaf_i (is_half hk)) (lt_i _ _) (tw_cons rfl (lt_i _ _) (tw_cons rfl (lt_i _ _) tw_nil))) hw_nil⟩
instance (n : Int) : HasC Tryz.prog 286 [.i n] (.i (isqrt n)):=⟨c_risqrt n⟩
end Go.Proofs.YtplmagdbnbijlaaGreat
/-
 What the functions of chapters 2 to 4 compute. Conditions: none.
-/
namespace Go.Proofs.YtplmagdbnbijlaaGreat
open Go.RowKit Go.AL Go.Carom
theorem c_anorm (a : Int) : PCall Tryz.prog 359 [.i a] (.i (anorm a)):=by
 refine pcall_of hm Tryz.func359 rfl (by kernel_rfl) (by rw [Tryz.ntmps359]; exact Nat.le_of_ble_eq_true rfl) (lt_cons (lt_i _ _) lt_nil) (lt_i _ _) ?_
 rw [Tryz.ntmps359,Tryz.results359]
 repeat' (first|simp only [go_sem,↓reduceIte,Nat.reduceLT,Nat.reduceAdd,reduceCtorEq,Int.reduceNeg,Int.reduceEq,ne_eq]|refine acond_split (fun _=>?_) (fun _=>?_))
 all_goals (try simp only [decide_eq_true_eq,decide_eq_false_iff_not] at *)
 all_goals have hb:=tmod_bd (n:=a) (d:=411776) (by omega)
 all_goals (refine leaf_i ?_)
 all_goals (unfold anorm; generalize a.tmod 411776 = r at *; (try rw [w64_id (n:=r - 411776) (by omega) (by omega)] at *); (try rw [w64_id (n:=r + 411776) (by omega) (by omega)] at *); (try rw [w64_id (n:=r - 411776 + 411776) (by omega) (by omega)] at *); (repeat' split) <;> omega)
instance (a : Int) : HasC Tryz.prog 359 [.i a] (.i (anorm a)):=⟨c_anorm a⟩
theorem c_ranorm (a : Int) : PCall Tryz.prog 363 [.i a] (.i (anorm a)):=by
 refine pcall_of hm Tryz.func363 rfl (by kernel_rfl) (by rw [Tryz.ntmps363]; exact Nat.le_of_ble_eq_true rfl) (lt_cons (lt_i _ _) lt_nil) (lt_i _ _) ?_
 rw [Tryz.ntmps363,Tryz.results363]
 repeat' (first|simp only [go_sem,↓reduceIte,Nat.reduceLT,Nat.reduceEqDiff,Nat.reduceAdd,reduceCtorEq,Int.reduceNeg,Int.reduceEq,ne_eq]|refine acond_split (fun _=>?_) (fun _=>?_))
 all_goals (try simp only [decide_eq_true_eq,decide_eq_false_iff_not] at *)
 all_goals have hb:=tmod_bd (n:=a) (d:=411776) (by omega)
 all_goals (refine leaf_i ?_)
 all_goals (unfold anorm; generalize a.tmod 411776 = r at *; (try rw [w64_id (n:=r - 411776) (by omega) (by omega)] at *); (try rw [w64_id (n:=r + 411776) (by omega) (by omega)] at *); (try rw [w64_id (n:=r - 411776 + 411776) (by omega) (by omega)] at *); (repeat' split) <;> omega)
instance (a : Int) : HasC Tryz.prog 363 [.i a] (.i (anorm a)):=⟨c_ranorm a⟩
theorem c_aabs (x : Int) : PCall Tryz.prog 358 [.i x] (.i (aabs x)):=by
 refine pcall_of hm Tryz.func358 rfl (by kernel_rfl) (by rw [Tryz.ntmps358]; exact Nat.le_of_ble_eq_true rfl) (lt_cons (lt_i _ _) lt_nil) (lt_i _ _) ?_
 rw [Tryz.ntmps358,Tryz.results358]
 repeat' (first|simp only [go_sem,↓reduceIte,Nat.reduceLT,Nat.reduceAdd,reduceCtorEq]|refine acond_split (fun _=>?_) (fun _=>?_))
 all_goals (try simp only [decide_eq_true_eq,decide_eq_false_iff_not] at *)
 all_goals (unfold aabs)
 ·rw [if_pos (by assumption)]
 ·rw [if_neg (by assumption)]
instance (x : Int) : HasC Tryz.prog 358 [.i x] (.i (aabs x)):=⟨c_aabs x⟩
theorem c_asin (a : Int) : PCall Tryz.prog 343 [.i a] (.i (asin a)):=by
 refine pcall_of hm Tryz.func343 rfl (by kernel_rfl) (by rw [Tryz.ntmps343]; exact Nat.le_of_ble_eq_true rfl) (lt_cons (lt_i _ _) lt_nil) (lt_i _ _) ?_
 rw [Tryz.ntmps343,Tryz.results343]
 repeat' (first|simp only [go_sem,↓reduceIte,Nat.reduceLT,Nat.reduceEqDiff,Nat.reduceAdd,reduceCtorEq]|refine cst_go ?_|refine acond_split (fun _=>?_) (fun _=>?_))
 all_goals (try simp only [decide_eq_true_eq,decide_eq_false_iff_not] at *)
 all_goals (unfold asin; simp only [*,if_true,if_false]; try rfl)
instance (a : Int) : HasC Tryz.prog 343 [.i a] (.i (asin a)):=⟨c_asin a⟩
theorem c_acos (a : Int) : PCall Tryz.prog 342 [.i a] (.i (acos a)):=by
 refine pcall_of hm Tryz.func342 rfl (by kernel_rfl) (by rw [Tryz.ntmps342]; exact Nat.le_of_ble_eq_true rfl) (lt_cons (lt_i _ _) lt_nil) (lt_i _ _) ?_
 rw [Tryz.ntmps342,Tryz.results342]
 repeat' (first|simp only [go_sem,↓reduceIte,Nat.reduceLT,Nat.reduceAdd,reduceCtorEq]|refine cst_go ?_)
 all_goals rfl
instance (a : Int) : HasC Tryz.prog 342 [.i a] (.i (acos a)):=⟨c_acos a⟩
theorem c_rot (a : Int) : PCall Tryz.prog 294 [.i a] (.agg [.i (rotc a),.i (rots a)]):=by
 refine pcall_of hm Tryz.func294 rfl (by kernel_rfl) (by rw [Tryz.ntmps294]; exact Nat.le_of_ble_eq_true rfl) (lt_cons (lt_i _ _) lt_nil) (lt_agg (lt_cons (lt_i _ _) (lt_cons (lt_i _ _) lt_nil))) ?_
 rw [Tryz.ntmps294,Tryz.results294]
 repeat' (first|simp only [go_sem,↓reduceIte,Nat.reduceLT,Nat.reduceEqDiff,Nat.reduceAdd,Nat.reduceLeDiff,reduceCtorEq,imp_self]|refine cst_go ?_)
 all_goals rfl
instance (a : Int) : HasC Tryz.prog 294 [.i a] (.agg [.i (rotc a),.i (rots a)]):=⟨c_rot a⟩
theorem c_flerp (a b t : Int) : PCall Tryz.prog 345 [.i a,.i b,.i t] (.i (flerp a b t)):=by
 refine pcall_of hm Tryz.func345 rfl (by kernel_rfl) (by rw [Tryz.ntmps345]; exact Nat.le_of_ble_eq_true rfl) (lt_cons (lt_i _ _) (lt_cons (lt_i _ _) (lt_cons (lt_i _ _) lt_nil))) (lt_i _ _) ?_
 rw [Tryz.ntmps345,Tryz.results345]
 repeat' (first|simp only [go_sem,↓reduceIte,Nat.reduceLT,Nat.reduceEqDiff,Nat.reduceAdd,reduceCtorEq]|refine cst_go ?_)
 all_goals rfl
instance (a b t : Int) : HasC Tryz.prog 345 [.i a,.i b,.i t] (.i (flerp a b t)):=⟨c_flerp a b t⟩
theorem c_raabs (x : Int) : PCall Tryz.prog 362 [.i x] (.i (aabs x)):=by
 refine pcall_of hm Tryz.func362 rfl (by kernel_rfl) (by rw [Tryz.ntmps362]; exact Nat.le_of_ble_eq_true rfl) (lt_cons (lt_i _ _) lt_nil) (lt_i _ _) ?_
 rw [Tryz.ntmps362,Tryz.results362]
 repeat' (first|simp only [go_sem,↓reduceIte,Nat.reduceLT,Nat.reduceAdd,reduceCtorEq]|refine acond_split (fun _=>?_) (fun _=>?_))
 all_goals (try simp only [decide_eq_true_eq,decide_eq_false_iff_not] at *)
 all_goals (unfold aabs)
 ·rw [if_pos (by assumption)]
 ·rw [if_neg (by assumption)]
instance (x : Int) : HasC Tryz.prog 362 [.i x] (.i (aabs x)):=⟨c_raabs x⟩
theorem c_rfq (x : Int) : PCall Tryz.prog 364 [.i x] (.i (sinq x)):=by
 refine pcall_of hm Tryz.func364 rfl (by kernel_rfl) (by rw [Tryz.ntmps364]; exact Nat.le_of_ble_eq_true rfl) (lt_cons (lt_i _ _) lt_nil) (lt_i _ _) ?_
 rw [Tryz.ntmps364,Tryz.results364]
 repeat' (first|simp only [go_sem,↓reduceIte,Nat.reduceLT,Nat.reduceEqDiff,Nat.reduceAdd,reduceCtorEq]|refine cst_go ?_)
 all_goals rfl
instance (x : Int) : HasC Tryz.prog 364 [.i x] (.i (sinq x)):=⟨c_rfq x⟩
theorem c_rasin (a : Int) : PCall Tryz.prog 350 [.i a] (.i (asin a)):=by
 refine pcall_of hm Tryz.func350 rfl (by kernel_rfl) (by rw [Tryz.ntmps350]; exact Nat.le_of_ble_eq_true rfl) (lt_cons (lt_i _ _) lt_nil) (lt_i _ _) ?_
 rw [Tryz.ntmps350,Tryz.results350]
 repeat' (first|simp only [go_sem,↓reduceIte,Nat.reduceLT,Nat.reduceEqDiff,Nat.reduceAdd,reduceCtorEq]|refine cst_go ?_|refine acond_split (fun _=>?_) (fun _=>?_))
 all_goals (try simp only [decide_eq_true_eq,decide_eq_false_iff_not] at *)
 all_goals (unfold asin; simp only [*,if_true,if_false]; try rfl)
instance (a : Int) : HasC Tryz.prog 350 [.i a] (.i (asin a)):=⟨c_rasin a⟩
theorem c_racos (a : Int) : PCall Tryz.prog 349 [.i a] (.i (acos a)):=by
 refine pcall_of hm Tryz.func349 rfl (by kernel_rfl) (by rw [Tryz.ntmps349]; exact Nat.le_of_ble_eq_true rfl) (lt_cons (lt_i _ _) lt_nil) (lt_i _ _) ?_
 rw [Tryz.ntmps349,Tryz.results349]
 repeat' (first|simp only [go_sem,↓reduceIte,Nat.reduceLT,Nat.reduceAdd,reduceCtorEq]|refine cst_go ?_)
 all_goals rfl
instance (a : Int) : HasC Tryz.prog 349 [.i a] (.i (acos a)):=⟨c_racos a⟩
theorem c_rrot (a : Int) : PCall Tryz.prog 312 [.i a] (.agg [.i (rotc a),.i (rots a)]):=by
 refine pcall_of hm Tryz.func312 rfl (by kernel_rfl) (by rw [Tryz.ntmps312]; exact Nat.le_of_ble_eq_true rfl) (lt_cons (lt_i _ _) lt_nil) (lt_agg (lt_cons (lt_i _ _) (lt_cons (lt_i _ _) lt_nil))) ?_
 rw [Tryz.ntmps312,Tryz.results312]
 repeat' (first|simp only [go_sem,↓reduceIte,Nat.reduceLT,Nat.reduceEqDiff,Nat.reduceAdd,Nat.reduceLeDiff,reduceCtorEq,imp_self]|refine cst_go ?_)
 all_goals rfl
instance (a : Int) : HasC Tryz.prog 312 [.i a] (.agg [.i (rotc a),.i (rots a)]):=⟨c_rrot a⟩
theorem c_rflerp (a b t : Int) : PCall Tryz.prog 352 [.i a,.i b,.i t] (.i (flerp a b t)):=by
 refine pcall_of hm Tryz.func352 rfl (by kernel_rfl) (by rw [Tryz.ntmps352]; exact Nat.le_of_ble_eq_true rfl) (lt_cons (lt_i _ _) (lt_cons (lt_i _ _) (lt_cons (lt_i _ _) lt_nil))) (lt_i _ _) ?_
 rw [Tryz.ntmps352,Tryz.results352]
 repeat' (first|simp only [go_sem,↓reduceIte,Nat.reduceLT,Nat.reduceEqDiff,Nat.reduceAdd,reduceCtorEq]|refine cst_go ?_)
 all_goals rfl
instance (a b t : Int) : HasC Tryz.prog 352 [.i a,.i b,.i t] (.i (flerp a b t)):=⟨c_rflerp a b t⟩
theorem c_vsat (x y : Int) : PCall Tryz.prog 217 [.agg [.i x,.i y]] (.agg [.i (sat x),.i (sat y)]):=by
 refine pcall_of hm Tryz.func217 rfl (by kernel_rfl) (by rw [Tryz.ntmps217]; exact Nat.le_of_ble_eq_true rfl) (lt_cons (lt_agg (lt_cons (lt_i _ _) (lt_cons (lt_i _ _) lt_nil))) lt_nil) (lt_agg (lt_cons (lt_i _ _) (lt_cons (lt_i _ _) lt_nil))) ?_
 rw [Tryz.ntmps217,Tryz.results217]
 repeat' (first|simp only [go_sem,↓reduceIte,Nat.reduceLT,Nat.reduceEqDiff,Nat.reduceAdd,Nat.reduceLeDiff,reduceCtorEq,imp_self]|refine cst_go ?_|(refine regOk_go ?_; kernel_rfl))
 all_goals rfl
instance (x y : Int) : HasC Tryz.prog 217 [.agg [.i x,.i y]] (.agg [.i (sat x),.i (sat y)]):=⟨c_vsat x y⟩
theorem c_prd (n : Int) : PCall Tryz.prog 218 [.i n] (.i (prd n)):=by
 refine pcall_of hm Tryz.func218 rfl (by kernel_rfl) (by rw [Tryz.ntmps218]; exact Nat.le_of_ble_eq_true rfl) (lt_cons (lt_i _ _) lt_nil) (lt_i _ _) ?_
 rw [Tryz.ntmps218,Tryz.results218]
 repeat' (first|simp only [go_sem,↓reduceIte,Nat.reduceLT,Nat.reduceAdd,reduceCtorEq]|refine cst_go ?_)
 all_goals rfl
instance (n : Int) : HasC Tryz.prog 218 [.i n] (.i (prd n)):=⟨c_prd n⟩
theorem c_vadd (x y u v : Int) : PCall Tryz.prog 183 [.agg [.i x,.i y],.agg [.i u,.i v]] (.agg [.i (fadd x u),.i (fadd y v)]):=by
 refine pcall_of hm Tryz.func183 rfl (by kernel_rfl) (by rw [Tryz.ntmps183]; exact Nat.le_of_ble_eq_true rfl) (lt_cons (lt_agg (lt_cons (lt_i _ _) (lt_cons (lt_i _ _) lt_nil))) (lt_cons (lt_agg (lt_cons (lt_i _ _) (lt_cons (lt_i _ _) lt_nil))) lt_nil)) (lt_agg (lt_cons (lt_i _ _) (lt_cons (lt_i _ _) lt_nil))) ?_
 rw [Tryz.ntmps183,Tryz.results183]
 repeat' (first|simp only [go_sem,↓reduceIte,Nat.reduceLT,Nat.reduceEqDiff,Nat.reduceAdd,Nat.reduceLeDiff,reduceCtorEq,imp_self]|refine cst_go ?_|(refine regOk_go ?_; kernel_rfl))
 all_goals rfl
instance (x y u v : Int) : HasC Tryz.prog 183 [.agg [.i x,.i y],.agg [.i u,.i v]] (.agg [.i (fadd x u),.i (fadd y v)]):=⟨c_vadd x y u v⟩
theorem c_vsub (x y u v : Int) : PCall Tryz.prog 182 [.agg [.i x,.i y],.agg [.i u,.i v]] (.agg [.i (fsub x u),.i (fsub y v)]):=by
 refine pcall_of hm Tryz.func182 rfl (by kernel_rfl) (by rw [Tryz.ntmps182]; exact Nat.le_of_ble_eq_true rfl) (lt_cons (lt_agg (lt_cons (lt_i _ _) (lt_cons (lt_i _ _) lt_nil))) (lt_cons (lt_agg (lt_cons (lt_i _ _) (lt_cons (lt_i _ _) lt_nil))) lt_nil)) (lt_agg (lt_cons (lt_i _ _) (lt_cons (lt_i _ _) lt_nil))) ?_
 rw [Tryz.ntmps182,Tryz.results182]
 repeat' (first|simp only [go_sem,↓reduceIte,Nat.reduceLT,Nat.reduceEqDiff,Nat.reduceAdd,Nat.reduceLeDiff,reduceCtorEq,imp_self]|refine cst_go ?_|(refine regOk_go ?_; kernel_rfl))
 all_goals rfl
instance (x y u v : Int) : HasC Tryz.prog 182 [.agg [.i x,.i y],.agg [.i u,.i v]] (.agg [.i (fsub x u),.i (fsub y v)]):=⟨c_vsub x y u v⟩
theorem c_vscale (x y k : Int) : PCall Tryz.prog 303 [.agg [.i x,.i y],.i k] (.agg [.i (fmul x k),.i (fmul y k)]):=by
 refine pcall_of hm Tryz.func303 rfl (by kernel_rfl) (by rw [Tryz.ntmps303]; exact Nat.le_of_ble_eq_true rfl) (lt_cons (lt_agg (lt_cons (lt_i _ _) (lt_cons (lt_i _ _) lt_nil))) (lt_cons (lt_i _ _) lt_nil)) (lt_agg (lt_cons (lt_i _ _) (lt_cons (lt_i _ _) lt_nil))) ?_
 rw [Tryz.ntmps303,Tryz.results303]
 repeat' (first|simp only [go_sem,↓reduceIte,Nat.reduceLT,Nat.reduceEqDiff,Nat.reduceAdd,Nat.reduceLeDiff,reduceCtorEq,imp_self]|refine cst_go ?_|(refine regOk_go ?_; kernel_rfl))
 all_goals rfl
instance (x y k : Int) : HasC Tryz.prog 303 [.agg [.i x,.i y],.i k] (.agg [.i (fmul x k),.i (fmul y k)]):=⟨c_vscale x y k⟩
theorem c_vdot (x y u v : Int) : PCall Tryz.prog 142 [.agg [.i x,.i y],.agg [.i u,.i v]] (.i (vdot x y u v)):=by
 refine pcall_of hm Tryz.func142 rfl (by kernel_rfl) (by rw [Tryz.ntmps142]; exact Nat.le_of_ble_eq_true rfl) (lt_cons (lt_agg (lt_cons (lt_i _ _) (lt_cons (lt_i _ _) lt_nil))) (lt_cons (lt_agg (lt_cons (lt_i _ _) (lt_cons (lt_i _ _) lt_nil))) lt_nil)) (lt_i _ _) ?_
 rw [Tryz.ntmps142,Tryz.results142]
 repeat' (first|simp only [go_sem,↓reduceIte,Nat.reduceLT,Nat.reduceEqDiff,Nat.reduceAdd,Nat.reduceLeDiff,reduceCtorEq,imp_self]|refine cst_go ?_|(refine regOk_go ?_; kernel_rfl)|refine And.intro ?_ ?_)
 all_goals rfl
instance (x y u v : Int) : HasC Tryz.prog 142 [.agg [.i x,.i y],.agg [.i u,.i v]] (.i (vdot x y u v)):=⟨c_vdot x y u v⟩
theorem c_dsq (x y u v : Int) : PCall Tryz.prog 289 [.agg [.i x,.i y],.agg [.i u,.i v]] (.i (dsq x y u v)):=by
 refine pcall_of hm Tryz.func289 rfl (by kernel_rfl) (by rw [Tryz.ntmps289]; exact Nat.le_of_ble_eq_true rfl) (lt_cons (lt_agg (lt_cons (lt_i _ _) (lt_cons (lt_i _ _) lt_nil))) (lt_cons (lt_agg (lt_cons (lt_i _ _) (lt_cons (lt_i _ _) lt_nil))) lt_nil)) (lt_i _ _) ?_
 rw [Tryz.ntmps289,Tryz.results289]
 repeat' (first|simp only [go_sem,↓reduceIte,Nat.reduceLT,Nat.reduceEqDiff,Nat.reduceAdd,Nat.reduceLeDiff,reduceCtorEq,imp_self]|refine cst_go ?_|(refine regOk_go ?_; kernel_rfl)|refine And.intro ?_ ?_)
 all_goals rfl
instance (x y u v : Int) : HasC Tryz.prog 289 [.agg [.i x,.i y],.agg [.i u,.i v]] (.i (dsq x y u v)):=⟨c_dsq x y u v⟩
theorem c_vlen (x y : Int) : PCall Tryz.prog 208 [.agg [.i x,.i y]] (.i (vlen x y)):=by
 refine pcall_of hm Tryz.func208 rfl (by kernel_rfl) (by rw [Tryz.ntmps208]; exact Nat.le_of_ble_eq_true rfl) (lt_cons (lt_agg (lt_cons (lt_i _ _) (lt_cons (lt_i _ _) lt_nil))) lt_nil) (lt_i _ _) ?_
 rw [Tryz.ntmps208,Tryz.results208]
 repeat' (first|simp only [go_sem,↓reduceIte,Nat.reduceLT,Nat.reduceEqDiff,Nat.reduceAdd,Nat.reduceLeDiff,reduceCtorEq,imp_self]|refine cst_go ?_)
 all_goals first|rfl|(refine leaf_i ?_; exact vlen_dsq x y)
instance (x y : Int) : HasC Tryz.prog 208 [.agg [.i x,.i y]] (.i (vlen x y)):=⟨c_vlen x y⟩
theorem c_vnorm (x y : Int) : PCall Tryz.prog 301 [.agg [.i x,.i y]] (.agg [.i (vnx x y),.i (vny x y)]):=by
 refine pcall_of hm Tryz.func301 rfl (by kernel_rfl) (by rw [Tryz.ntmps301]; exact Nat.le_of_ble_eq_true rfl) (lt_cons (lt_agg (lt_cons (lt_i _ _) (lt_cons (lt_i _ _) lt_nil))) lt_nil) (lt_agg (lt_cons (lt_i _ _) (lt_cons (lt_i _ _) lt_nil))) ?_
 rw [Tryz.ntmps301,Tryz.results301]
 repeat' (first|simp only [go_sem,↓reduceIte,Nat.reduceLT,Nat.reduceEqDiff,Nat.reduceAdd,Nat.reduceLeDiff,reduceCtorEq,imp_self]|refine cst_go ?_|(refine regOk_go ?_; kernel_rfl)|refine acond_split (fun _=>?_) (fun _=>?_)|refine And.intro ?_ ?_)
 all_goals (try simp only [decide_eq_true_eq,decide_eq_false_iff_not] at *)
 all_goals (unfold vnx vny; simp only [*,if_true,if_false])
instance (x y : Int) : HasC Tryz.prog 301 [.agg [.i x,.i y]] (.agg [.i (vnx x y),.i (vny x y)]):=⟨c_vnorm x y⟩
theorem c_vlerp (x y u v t : Int) : PCall Tryz.prog 298 [.agg [.i x,.i y],.agg [.i u,.i v],.i t] (.agg [.i (flerp x u t),.i (flerp y v t)]):=by
 refine pcall_of hm Tryz.func298 rfl (by kernel_rfl) (by rw [Tryz.ntmps298]; exact Nat.le_of_ble_eq_true rfl) (lt_cons (lt_agg (lt_cons (lt_i _ _) (lt_cons (lt_i _ _) lt_nil))) (lt_cons (lt_agg (lt_cons (lt_i _ _) (lt_cons (lt_i _ _) lt_nil))) (lt_cons (lt_i _ _) lt_nil))) (lt_agg (lt_cons (lt_i _ _) (lt_cons (lt_i _ _) lt_nil))) ?_
 rw [Tryz.ntmps298,Tryz.results298]
 repeat' (first|simp only [go_sem,↓reduceIte,Nat.reduceLT,Nat.reduceEqDiff,Nat.reduceAdd,Nat.reduceLeDiff,reduceCtorEq,imp_self]|refine cst_go ?_|(refine regOk_go ?_; kernel_rfl))
 all_goals rfl
instance (x y u v t : Int) : HasC Tryz.prog 298 [.agg [.i x,.i y],.agg [.i u,.i v],.i t] (.agg [.i (flerp x u t),.i (flerp y v t)]):=⟨c_vlerp x y u v t⟩
theorem c_rotate (c s x y : Int) : PCall Tryz.prog 293 [.agg [.i c,.i s],.agg [.i x,.i y]] (.agg [.i (rtx c s x y),.i (rty c s x y)]):=by
 refine pcall_of hm Tryz.func293 rfl (by kernel_rfl) (by rw [Tryz.ntmps293]; exact Nat.le_of_ble_eq_true rfl) (lt_cons (lt_agg (lt_cons (lt_i _ _) (lt_cons (lt_i _ _) lt_nil))) (lt_cons (lt_agg (lt_cons (lt_i _ _) (lt_cons (lt_i _ _) lt_nil))) lt_nil)) (lt_agg (lt_cons (lt_i _ _) (lt_cons (lt_i _ _) lt_nil))) ?_
 rw [Tryz.ntmps293,Tryz.results293]
 repeat' (first|simp only [go_sem,↓reduceIte,Nat.reduceLT,Nat.reduceEqDiff,Nat.reduceAdd,Nat.reduceLeDiff,reduceCtorEq,imp_self]|refine cst_go ?_|(refine regOk_go ?_; kernel_rfl)|refine And.intro ?_ ?_)
 all_goals rfl
instance (c s x y : Int) : HasC Tryz.prog 293 [.agg [.i c,.i s],.agg [.i x,.i y]] (.agg [.i (rtx c s x y),.i (rty c s x y)]):=⟨c_rotate c s x y⟩
theorem c_orient (a b c d e f : Int) : PCall Tryz.prog 214 [.agg [.i a,.i b],.agg [.i c,.i d],.agg [.i e,.i f]] (.i (orient a b c d e f)):=by
 refine pcall_of hm Tryz.func214 rfl (by kernel_rfl) (by rw [Tryz.ntmps214]; exact Nat.le_of_ble_eq_true rfl) (lt_cons (lt_agg (lt_cons (lt_i _ _) (lt_cons (lt_i _ _) lt_nil))) (lt_cons (lt_agg (lt_cons (lt_i _ _) (lt_cons (lt_i _ _) lt_nil))) (lt_cons (lt_agg (lt_cons (lt_i _ _) (lt_cons (lt_i _ _) lt_nil))) lt_nil))) (lt_i _ _) ?_
 rw [Tryz.ntmps214,Tryz.results214]
 repeat' (first|simp only [go_sem,↓reduceIte,Nat.reduceLT,Nat.reduceEqDiff,Nat.reduceAdd,Nat.reduceLeDiff,reduceCtorEq,imp_self,Int.reduceNeg]|refine cst_go ?_|(refine regOk_go ?_; kernel_rfl)|refine And.intro ?_ ?_)
 all_goals (try simp only [decide_eq_true_eq,decide_eq_false_iff_not,Bool.or_eq_true,Bool.or_eq_false_iff,Bool.and_eq_true,Bool.and_eq_false_iff,Bool.not_eq_true',Bool.not_eq_false'] at *)
 all_goals (refine leaf_i ?_; unfold orient area2; (repeat' split) <;> omega)
instance (a b c d e f : Int) : HasC Tryz.prog 214 [.agg [.i a,.i b],.agg [.i c,.i d],.agg [.i e,.i f]] (.i (orient a b c d e f)):=⟨c_orient a b c d e f⟩
theorem c_rvsat (x y : Int) : PCall Tryz.prog 247 [.agg [.i x,.i y]] (.agg [.i (sat x),.i (sat y)]):=by
 refine pcall_of hm Tryz.func247 rfl (by kernel_rfl) (by rw [Tryz.ntmps247]; exact Nat.le_of_ble_eq_true rfl) (lt_cons (lt_agg (lt_cons (lt_i _ _) (lt_cons (lt_i _ _) lt_nil))) lt_nil) (lt_agg (lt_cons (lt_i _ _) (lt_cons (lt_i _ _) lt_nil))) ?_
 rw [Tryz.ntmps247,Tryz.results247]
 repeat' (first|simp only [go_sem,↓reduceIte,Nat.reduceLT,Nat.reduceEqDiff,Nat.reduceAdd,Nat.reduceLeDiff,reduceCtorEq,imp_self]|refine cst_go ?_|(refine regOk_go ?_; kernel_rfl))
 all_goals rfl
instance (x y : Int) : HasC Tryz.prog 247 [.agg [.i x,.i y]] (.agg [.i (sat x),.i (sat y)]):=⟨c_rvsat x y⟩
theorem c_rvadd (x y u v : Int) : PCall Tryz.prog 238 [.agg [.i x,.i y],.agg [.i u,.i v]] (.agg [.i (fadd x u),.i (fadd y v)]):=by
 refine pcall_of hm Tryz.func238 rfl (by kernel_rfl) (by rw [Tryz.ntmps238]; exact Nat.le_of_ble_eq_true rfl) (lt_cons (lt_agg (lt_cons (lt_i _ _) (lt_cons (lt_i _ _) lt_nil))) (lt_cons (lt_agg (lt_cons (lt_i _ _) (lt_cons (lt_i _ _) lt_nil))) lt_nil)) (lt_agg (lt_cons (lt_i _ _) (lt_cons (lt_i _ _) lt_nil))) ?_
 rw [Tryz.ntmps238,Tryz.results238]
 repeat' (first|simp only [go_sem,↓reduceIte,Nat.reduceLT,Nat.reduceEqDiff,Nat.reduceAdd,Nat.reduceLeDiff,reduceCtorEq,imp_self]|refine cst_go ?_|(refine regOk_go ?_; kernel_rfl))
 all_goals rfl
instance (x y u v : Int) : HasC Tryz.prog 238 [.agg [.i x,.i y],.agg [.i u,.i v]] (.agg [.i (fadd x u),.i (fadd y v)]):=⟨c_rvadd x y u v⟩
theorem c_rvsub (x y u v : Int) : PCall Tryz.prog 231 [.agg [.i x,.i y],.agg [.i u,.i v]] (.agg [.i (fsub x u),.i (fsub y v)]):=by
 refine pcall_of hm Tryz.func231 rfl (by kernel_rfl) (by rw [Tryz.ntmps231]; exact Nat.le_of_ble_eq_true rfl) (lt_cons (lt_agg (lt_cons (lt_i _ _) (lt_cons (lt_i _ _) lt_nil))) (lt_cons (lt_agg (lt_cons (lt_i _ _) (lt_cons (lt_i _ _) lt_nil))) lt_nil)) (lt_agg (lt_cons (lt_i _ _) (lt_cons (lt_i _ _) lt_nil))) ?_
 rw [Tryz.ntmps231,Tryz.results231]
 repeat' (first|simp only [go_sem,↓reduceIte,Nat.reduceLT,Nat.reduceEqDiff,Nat.reduceAdd,Nat.reduceLeDiff,reduceCtorEq,imp_self]|refine cst_go ?_|(refine regOk_go ?_; kernel_rfl))
 all_goals rfl
instance (x y u v : Int) : HasC Tryz.prog 231 [.agg [.i x,.i y],.agg [.i u,.i v]] (.agg [.i (fsub x u),.i (fsub y v)]):=⟨c_rvsub x y u v⟩
theorem c_rvscale (x y k : Int) : PCall Tryz.prog 239 [.agg [.i x,.i y],.i k] (.agg [.i (fmul x k),.i (fmul y k)]):=by
 refine pcall_of hm Tryz.func239 rfl (by kernel_rfl) (by rw [Tryz.ntmps239]; exact Nat.le_of_ble_eq_true rfl) (lt_cons (lt_agg (lt_cons (lt_i _ _) (lt_cons (lt_i _ _) lt_nil))) (lt_cons (lt_i _ _) lt_nil)) (lt_agg (lt_cons (lt_i _ _) (lt_cons (lt_i _ _) lt_nil))) ?_
 rw [Tryz.ntmps239,Tryz.results239]
 repeat' (first|simp only [go_sem,↓reduceIte,Nat.reduceLT,Nat.reduceEqDiff,Nat.reduceAdd,Nat.reduceLeDiff,reduceCtorEq,imp_self]|refine cst_go ?_|(refine regOk_go ?_; kernel_rfl))
 all_goals rfl
instance (x y k : Int) : HasC Tryz.prog 239 [.agg [.i x,.i y],.i k] (.agg [.i (fmul x k),.i (fmul y k)]):=⟨c_rvscale x y k⟩
theorem c_rvdot (x y u v : Int) : PCall Tryz.prog 157 [.agg [.i x,.i y],.agg [.i u,.i v]] (.i (vdot x y u v)):=by
 refine pcall_of hm Tryz.func157 rfl (by kernel_rfl) (by rw [Tryz.ntmps157]; exact Nat.le_of_ble_eq_true rfl) (lt_cons (lt_agg (lt_cons (lt_i _ _) (lt_cons (lt_i _ _) lt_nil))) (lt_cons (lt_agg (lt_cons (lt_i _ _) (lt_cons (lt_i _ _) lt_nil))) lt_nil)) (lt_i _ _) ?_
 rw [Tryz.ntmps157,Tryz.results157]
 repeat' (first|simp only [go_sem,↓reduceIte,Nat.reduceLT,Nat.reduceEqDiff,Nat.reduceAdd,Nat.reduceLeDiff,reduceCtorEq,imp_self]|refine cst_go ?_)
 all_goals rfl
instance (x y u v : Int) : HasC Tryz.prog 157 [.agg [.i x,.i y],.agg [.i u,.i v]] (.i (vdot x y u v)):=⟨c_rvdot x y u v⟩
theorem c_rdsq (x y u v : Int) : PCall Tryz.prog 244 [.agg [.i x,.i y],.agg [.i u,.i v]] (.i (dsq x y u v)):=by
 refine pcall_of hm Tryz.func244 rfl (by kernel_rfl) (by rw [Tryz.ntmps244]; exact Nat.le_of_ble_eq_true rfl) (lt_cons (lt_agg (lt_cons (lt_i _ _) (lt_cons (lt_i _ _) lt_nil))) (lt_cons (lt_agg (lt_cons (lt_i _ _) (lt_cons (lt_i _ _) lt_nil))) lt_nil)) (lt_i _ _) ?_
 rw [Tryz.ntmps244,Tryz.results244]
 repeat' (first|simp only [go_sem,↓reduceIte,Nat.reduceLT,Nat.reduceEqDiff,Nat.reduceAdd,Nat.reduceLeDiff,reduceCtorEq,imp_self]|refine cst_go ?_)
 all_goals rfl
instance (x y u v : Int) : HasC Tryz.prog 244 [.agg [.i x,.i y],.agg [.i u,.i v]] (.i (dsq x y u v)):=⟨c_rdsq x y u v⟩
theorem c_rvlen (x y : Int) : PCall Tryz.prog 201 [.agg [.i x,.i y]] (.i (vlen x y)):=by
 refine pcall_of hm Tryz.func201 rfl (by kernel_rfl) (by rw [Tryz.ntmps201]; exact Nat.le_of_ble_eq_true rfl) (lt_cons (lt_agg (lt_cons (lt_i _ _) (lt_cons (lt_i _ _) lt_nil))) lt_nil) (lt_i _ _) ?_
 rw [Tryz.ntmps201,Tryz.results201]
 repeat' (first|simp only [go_sem,↓reduceIte,Nat.reduceLT,Nat.reduceEqDiff,Nat.reduceAdd,Nat.reduceLeDiff,reduceCtorEq,imp_self]|refine cst_go ?_)
 all_goals first|rfl|(refine leaf_i ?_; exact vlen_dsq x y)
instance (x y : Int) : HasC Tryz.prog 201 [.agg [.i x,.i y]] (.i (vlen x y)):=⟨c_rvlen x y⟩
theorem c_rvnorm (x y : Int) : PCall Tryz.prog 237 [.agg [.i x,.i y]] (.agg [.i (vnx x y),.i (vny x y)]):=by
 refine pcall_of hm Tryz.func237 rfl (by kernel_rfl) (by rw [Tryz.ntmps237]; exact Nat.le_of_ble_eq_true rfl) (lt_cons (lt_agg (lt_cons (lt_i _ _) (lt_cons (lt_i _ _) lt_nil))) lt_nil) (lt_agg (lt_cons (lt_i _ _) (lt_cons (lt_i _ _) lt_nil))) ?_
 rw [Tryz.ntmps237,Tryz.results237]
 repeat' (first|simp only [go_sem,↓reduceIte,Nat.reduceLT,Nat.reduceEqDiff,Nat.reduceAdd,Nat.reduceLeDiff,reduceCtorEq,imp_self]|refine cst_go ?_|(refine regOk_go ?_; kernel_rfl)|refine acond_split (fun _=>?_) (fun _=>?_)|refine And.intro ?_ ?_)
 all_goals (try simp only [decide_eq_true_eq,decide_eq_false_iff_not] at *)
 all_goals (unfold vnx vny; simp only [*,if_true,if_false])
instance (x y : Int) : HasC Tryz.prog 237 [.agg [.i x,.i y]] (.agg [.i (vnx x y),.i (vny x y)]):=⟨c_rvnorm x y⟩
theorem c_rvlerp (x y u v t : Int) : PCall Tryz.prog 316 [.agg [.i x,.i y],.agg [.i u,.i v],.i t] (.agg [.i (flerp x u t),.i (flerp y v t)]):=by
 refine pcall_of hm Tryz.func316 rfl (by kernel_rfl) (by rw [Tryz.ntmps316]; exact Nat.le_of_ble_eq_true rfl) (lt_cons (lt_agg (lt_cons (lt_i _ _) (lt_cons (lt_i _ _) lt_nil))) (lt_cons (lt_agg (lt_cons (lt_i _ _) (lt_cons (lt_i _ _) lt_nil))) (lt_cons (lt_i _ _) lt_nil))) (lt_agg (lt_cons (lt_i _ _) (lt_cons (lt_i _ _) lt_nil))) ?_
 rw [Tryz.ntmps316,Tryz.results316]
 repeat' (first|simp only [go_sem,↓reduceIte,Nat.reduceLT,Nat.reduceEqDiff,Nat.reduceAdd,Nat.reduceLeDiff,reduceCtorEq,imp_self]|refine cst_go ?_|(refine regOk_go ?_; kernel_rfl))
 all_goals rfl
instance (x y u v t : Int) : HasC Tryz.prog 316 [.agg [.i x,.i y],.agg [.i u,.i v],.i t] (.agg [.i (flerp x u t),.i (flerp y v t)]):=⟨c_rvlerp x y u v t⟩
theorem c_rrotate (c s x y : Int) : PCall Tryz.prog 311 [.agg [.i c,.i s],.agg [.i x,.i y]] (.agg [.i (rtx c s x y),.i (rty c s x y)]):=by
 refine pcall_of hm Tryz.func311 rfl (by kernel_rfl) (by rw [Tryz.ntmps311]; exact Nat.le_of_ble_eq_true rfl) (lt_cons (lt_agg (lt_cons (lt_i _ _) (lt_cons (lt_i _ _) lt_nil))) (lt_cons (lt_agg (lt_cons (lt_i _ _) (lt_cons (lt_i _ _) lt_nil))) lt_nil)) (lt_agg (lt_cons (lt_i _ _) (lt_cons (lt_i _ _) lt_nil))) ?_
 rw [Tryz.ntmps311,Tryz.results311]
 repeat' (first|simp only [go_sem,↓reduceIte,Nat.reduceLT,Nat.reduceEqDiff,Nat.reduceAdd,Nat.reduceLeDiff,reduceCtorEq,imp_self]|refine cst_go ?_|(refine regOk_go ?_; kernel_rfl)|refine And.intro ?_ ?_)
 all_goals rfl
instance (c s x y : Int) : HasC Tryz.prog 311 [.agg [.i c,.i s],.agg [.i x,.i y]] (.agg [.i (rtx c s x y),.i (rty c s x y)]):=⟨c_rrotate c s x y⟩
theorem c_rorient (a b c d e f : Int) : PCall Tryz.prog 309 [.agg [.i a,.i b],.agg [.i c,.i d],.agg [.i e,.i f]] (.i (orient a b c d e f)):=by
 refine pcall_of hm Tryz.func309 rfl (by kernel_rfl) (by rw [Tryz.ntmps309]; exact Nat.le_of_ble_eq_true rfl) (lt_cons (lt_agg (lt_cons (lt_i _ _) (lt_cons (lt_i _ _) lt_nil))) (lt_cons (lt_agg (lt_cons (lt_i _ _) (lt_cons (lt_i _ _) lt_nil))) (lt_cons (lt_agg (lt_cons (lt_i _ _) (lt_cons (lt_i _ _) lt_nil))) lt_nil))) (lt_i _ _) ?_
 rw [Tryz.ntmps309,Tryz.results309]
 repeat' (first|simp only [go_sem,↓reduceIte,Nat.reduceLT,Nat.reduceEqDiff,Nat.reduceAdd,Nat.reduceLeDiff,reduceCtorEq,imp_self,Int.reduceNeg]|refine cst_go ?_|refine acond_split (fun _=>?_) (fun _=>?_))
 all_goals (try simp only [decide_eq_true_eq,decide_eq_false_iff_not] at *)
 all_goals (refine leaf_i ?_; unfold orient area2; (repeat' split) <;> omega)
instance (a b c d e f : Int) : HasC Tryz.prog 309 [.agg [.i a,.i b],.agg [.i c,.i d],.agg [.i e,.i f]] (.i (orient a b c d e f)):=⟨c_rorient a b c d e f⟩
theorem c_inw (x : Int) : PCall Tryz.prog 355 [.i x] (.b (decide (-268435456 ≤ x ∧ x ≤ 268435456))):=by
 refine pcall_of hm Tryz.func355 rfl (by kernel_rfl) (by rw [Tryz.ntmps355]; exact Nat.le_of_ble_eq_true rfl) (lt_cons (lt_i _ _) lt_nil) (lt_b _ _) ?_
 rw [Tryz.ntmps355,Tryz.results355]
 repeat' (first|simp only [go_sem,↓reduceIte,Nat.reduceLT,Nat.reduceEqDiff,Nat.reduceAdd,reduceCtorEq,imp_self,Int.reduceNeg])
 all_goals (try simp only [decide_eq_true_eq,decide_eq_false_iff_not,Bool.or_eq_true,Bool.or_eq_false_iff,Bool.and_eq_true,Bool.and_eq_false_iff,Bool.not_eq_true',Bool.not_eq_false'] at *)
 all_goals (refine leaf_b ?_; rw [Bool.eq_iff_iff]; simp; try omega)
instance (x : Int) : HasC Tryz.prog 355 [.i x] (.b (decide (-268435456 ≤ x ∧ x ≤ 268435456))):=⟨c_inw x⟩
theorem c_tvalid (px py a : Int) : PCall Tryz.prog 327 [.agg [.i px,.i py,.i a]] (.b (tvalid px py a)):=by
 refine pcall_of hm Tryz.func327 rfl (by kernel_rfl) (by rw [Tryz.ntmps327]; exact Nat.le_of_ble_eq_true rfl) (lt_cons (lt_agg (lt_cons (lt_i _ _) (lt_cons (lt_i _ _) (lt_cons (lt_i _ _) lt_nil)))) lt_nil) (lt_b _ _) ?_
 rw [Tryz.ntmps327,Tryz.results327]
 repeat' (first|simp only [go_sem,↓reduceIte,Nat.reduceLT,Nat.reduceEqDiff,Nat.reduceAdd,Nat.reduceLeDiff,reduceCtorEq,imp_self,Int.reduceNeg]|refine cst_go ?_|refine gcst_go ?_)
 all_goals (refine leaf_b ?_; unfold tvalid; rw [Bool.eq_iff_iff]; simp; omega)
instance (px py a : Int) : HasC Tryz.prog 327 [.agg [.i px,.i py,.i a]] (.b (tvalid px py a)):=⟨c_tvalid px py a⟩
theorem c_tapp (px py a x y : Int) : PCall Tryz.prog 212 [.agg [.i px,.i py,.i a],.agg [.i x,.i y]] (.agg [.i (apx px py a x y),.i (apy px py a x y)]):=by
 refine pcall_of hm Tryz.func212 rfl (by kernel_rfl) (by rw [Tryz.ntmps212]; exact Nat.le_of_ble_eq_true rfl) (lt_cons (lt_agg (lt_cons (lt_i _ _) (lt_cons (lt_i _ _) (lt_cons (lt_i _ _) lt_nil)))) (lt_cons (lt_agg (lt_cons (lt_i _ _) (lt_cons (lt_i _ _) lt_nil))) lt_nil)) (lt_agg (lt_cons (lt_i _ _) (lt_cons (lt_i _ _) lt_nil))) ?_
 rw [Tryz.ntmps212,Tryz.results212]
 repeat' (first|simp only [go_sem,↓reduceIte,Nat.reduceLT,Nat.reduceEqDiff,Nat.reduceAdd,Nat.reduceLeDiff,reduceCtorEq,imp_self]|refine cst_go ?_|(refine regOk_go ?_; kernel_rfl)|refine And.intro ?_ ?_)
 all_goals rfl
instance (px py a x y : Int) : HasC Tryz.prog 212 [.agg [.i px,.i py,.i a],.agg [.i x,.i y]] (.agg [.i (apx px py a x y),.i (apy px py a x y)]):=⟨c_tapp px py a x y⟩
theorem c_rinw (x : Int) : PCall Tryz.prog 340 [.i x] (.b (!decide (-268435456 ≤ x ∧ x ≤ 268435456))):=by
 refine pcall_of hm Tryz.func340 rfl (by kernel_rfl) (by rw [Tryz.ntmps340]; exact Nat.le_of_ble_eq_true rfl) (lt_cons (lt_i _ _) lt_nil) (lt_b _ _) ?_
 rw [Tryz.ntmps340,Tryz.results340]
 repeat' (first|simp only [go_sem,↓reduceIte,Nat.reduceLT,Nat.reduceEqDiff,Nat.reduceAdd,reduceCtorEq,Bool.not_eq_true',imp_self,Int.reduceNeg])
 all_goals (try simp only [decide_eq_true_eq,decide_eq_false_iff_not,Bool.or_eq_true,Bool.or_eq_false_iff,Bool.and_eq_true,Bool.and_eq_false_iff,Bool.not_eq_true',Bool.not_eq_false'] at *)
 all_goals (refine leaf_b ?_; rw [Bool.eq_iff_iff]; simp; try omega)
instance (x : Int) : HasC Tryz.prog 340 [.i x] (.b (!decide (-268435456 ≤ x ∧ x ≤ 268435456))):=⟨c_rinw x⟩
theorem c_rtvalid (px py a : Int) : PCall Tryz.prog 283 [.agg [.i px,.i py,.i a]] (.b (tvalid px py a)):=by
 refine pcall_of hm Tryz.func283 rfl (by kernel_rfl) (by rw [Tryz.ntmps283]; exact Nat.le_of_ble_eq_true rfl) (lt_cons (lt_agg (lt_cons (lt_i _ _) (lt_cons (lt_i _ _) (lt_cons (lt_i _ _) lt_nil)))) lt_nil) (lt_b _ _) ?_
 rw [Tryz.ntmps283,Tryz.results283]
 repeat' (first|simp only [go_sem,↓reduceIte,Nat.reduceLT,Nat.reduceEqDiff,Nat.reduceAdd,Nat.reduceLeDiff,reduceCtorEq,Bool.not_eq_true',imp_self,Int.reduceNeg]|refine cst_go ?_|refine gcst_go ?_)
 all_goals (refine leaf_b ?_; unfold tvalid; rw [Bool.eq_iff_iff]; simp; omega)
instance (px py a : Int) : HasC Tryz.prog 283 [.agg [.i px,.i py,.i a]] (.b (tvalid px py a)):=⟨c_rtvalid px py a⟩
theorem c_rtapp (px py a x y : Int) : PCall Tryz.prog 235 [.agg [.i px,.i py,.i a],.agg [.i x,.i y]] (.agg [.i (apx px py a x y),.i (apy px py a x y)]):=by
 refine pcall_of hm Tryz.func235 rfl (by kernel_rfl) (by rw [Tryz.ntmps235]; exact Nat.le_of_ble_eq_true rfl) (lt_cons (lt_agg (lt_cons (lt_i _ _) (lt_cons (lt_i _ _) (lt_cons (lt_i _ _) lt_nil)))) (lt_cons (lt_agg (lt_cons (lt_i _ _) (lt_cons (lt_i _ _) lt_nil))) lt_nil)) (lt_agg (lt_cons (lt_i _ _) (lt_cons (lt_i _ _) lt_nil))) ?_
 rw [Tryz.ntmps235,Tryz.results235]
 repeat' (first|simp only [go_sem,↓reduceIte,Nat.reduceLT,Nat.reduceEqDiff,Nat.reduceAdd,Nat.reduceLeDiff,reduceCtorEq,imp_self]|refine cst_go ?_|(refine regOk_go ?_; kernel_rfl)|refine And.intro ?_ ?_)
 all_goals rfl
instance (px py a x y : Int) : HasC Tryz.prog 235 [.agg [.i px,.i py,.i a],.agg [.i x,.i y]] (.agg [.i (apx px py a x y),.i (apy px py a x y)]):=⟨c_rtapp px py a x y⟩
end Go.Proofs.YtplmagdbnbijlaaGreat
/-
 What the functions of chapters 10 to 12 compute. Conditions: none.
-/
namespace Go.Proofs.YtplmagdbnbijlaaGreat
open Go.RowKit Go.AL Go.Carom
theorem c_inr (x y : Int) : PCall Tryz.prog 341 [.agg [.i x,.i y]] (.b (inr x y)):=by
 refine pcall_of hm Tryz.func341 rfl (by kernel_rfl) (by rw [Tryz.ntmps341]; exact Nat.le_of_ble_eq_true rfl) (lt_cons (lt_agg (lt_cons (lt_i _ _) (lt_cons (lt_i _ _) lt_nil))) lt_nil) (lt_b _ _) ?_
 rw [Tryz.ntmps341,Tryz.results341]
 repeat' (first|simp only [go_sem,↓reduceIte,Nat.reduceLT,Nat.reduceEqDiff,Nat.reduceAdd,Nat.reduceLeDiff,reduceCtorEq,imp_self,Int.reduceNeg])
 all_goals (try simp only [decide_eq_true_eq,decide_eq_false_iff_not,Bool.or_eq_true,Bool.or_eq_false_iff,Bool.and_eq_true,Bool.and_eq_false_iff,Bool.not_eq_true',Bool.not_eq_false'] at *)
 all_goals (refine leaf_b ?_; unfold inr; rfl)
instance (x y : Int) : HasC Tryz.prog 341 [.agg [.i x,.i y]] (.b (inr x y)):=⟨c_inr x y⟩
theorem c_rinr (x y : Int) : PCall Tryz.prog 308 [.agg [.i x,.i y]] (.b (inr x y)):=by
 refine pcall_of hm Tryz.func308 rfl (by kernel_rfl) (by rw [Tryz.ntmps308]; exact Nat.le_of_ble_eq_true rfl) (lt_cons (lt_agg (lt_cons (lt_i _ _) (lt_cons (lt_i _ _) lt_nil))) lt_nil) (lt_b _ _) ?_
 rw [Tryz.ntmps308,Tryz.results308]
 repeat' (first|simp only [go_sem,↓reduceIte,Nat.reduceLT,Nat.reduceEqDiff,Nat.reduceAdd,Nat.reduceLeDiff,reduceCtorEq,imp_self,Int.reduceNeg])
 all_goals (try simp only [decide_eq_true_eq,decide_eq_false_iff_not,Bool.or_eq_true,Bool.or_eq_false_iff,Bool.and_eq_true,Bool.and_eq_false_iff,Bool.not_eq_true',Bool.not_eq_false'] at *)
 all_goals (refine leaf_b ?_; unfold inr; rfl)
instance (x y : Int) : HasC Tryz.prog 308 [.agg [.i x,.i y]] (.b (inr x y)):=⟨c_rinr x y⟩
theorem c_allir (ps : List (Int × Int)) (hl : ps.length ≤ maxLen) : PCall Tryz.prog 290 [.sl (ps.map ev)] (.b (allIR ps)):=by
 refine pcall_of hm Tryz.func290 rfl (by kernel_rfl) (by rw [Tryz.ntmps290]; exact Nat.le_of_ble_eq_true rfl) (lt_cons (lt_vs _ _) lt_nil) (lt_b _ _) ?_
 rw [Tryz.ntmps290,Tryz.results290]
 repeat' (first|simp only [go_sem,↓reduceIte,Nat.reduceLT,Nat.reduceAdd,reduceCtorEq,List.length_map,true_and])
 refine tr_loop hm (ST:=fun x : LS ps.length (fun i=>inr (vx ps i) (vy ps i))=>[(7,.i x.i),(6,.i ps.length),(5,.sl (ps.map ev))]) (SH:=fun _=>[]) 0 (fun x=>ps.length - x.i) (LS.start _ _) ?_ ?_
 ·exact wk_go (Nat.le_refl _) (tw_cons rfl (lt_i _ _) (tw_cons rfl (lt_i _ _) (tw_cons rfl (lt_vs _ _) tw_nil))) hw_nil
 ·rintro ⟨i,hi,h⟩
  by_cases hlt : i < ps.length
  ·have e1:=ilt hlt
   have e2:=isucc hlt hl
   have e3:=ev_getD hlt
   repeat' (first|simp only [go_sem,↓reduceIte,Nat.reduceLT,Nat.reduceEqDiff,Nat.reduceAdd,Nat.reduceLeDiff,reduceCtorEq,imp_self,decide_true,acond_tt,icast,inn,List.length_map,true_and,and_true,e1,e2,e3]|refine cst_go ?_|refine acond_split (fun _=>?_) (fun _=>?_))
   ·rename_i hc
    exact leaf_b (LS.fail hlt (by simpa using hc)).symm
   ·rename_i hc
    exact ⟨LS.next hlt h (by simpa using hc),Nat.sub_lt_sub_left hlt (Nat.lt_succ_self _),wk_go (by decide) (tw_cons rfl (lt_i _ _) (tw_cons rfl (lt_i _ _) (tw_cons rfl (lt_vs _ _) tw_nil))) hw_nil⟩
  ·have e1:=inlt hlt
   repeat' (first|simp only [go_sem,↓reduceIte,Nat.reduceLT,Nat.reduceEqDiff,Nat.reduceAdd,decide_false,acond_ff,true_and,and_true,e1])
   exact leaf_b (LS.done hlt h).symm
theorem c_convex (ps : List (Int × Int)) (hl : ps.length ≤ maxLen) : PCall Tryz.prog 209 [.sl (ps.map ev)] (.b (convex ps)):=by
 refine pcall_of hm Tryz.func209 rfl (by kernel_rfl) (by rw [Tryz.ntmps209]; exact Nat.le_of_ble_eq_true rfl) (lt_cons (lt_vs _ _) lt_nil) (lt_b _ _) ?_
 rw [Tryz.ntmps209,Tryz.results209]
 have hlr:=c_allir ps hl
 letI : HasC Tryz.prog 290 [.sl (ps.map ev)] (.b (allIR ps)):=⟨hlr⟩
 repeat' (first|simp only [go_sem,↓reduceIte,Nat.reduceLT,Nat.reduceEqDiff,Nat.reduceAdd,reduceCtorEq,Bool.not_eq_true',imp_self,List.length_map,true_and,and_true]|refine gcst_go ?_|refine acond_split (fun _=>?_) (fun _=>?_))
 ·rename_i hc
  exact leaf_b (convex_no hc)
 ·rename_i hc
  rw [convex_if hc]
  refine tr_loop hm (ST:=fun x : LS ps.length (cvi ps)=>[(24,.i x.i),(23,.i ps.length),(22,.sl (ps.map ev)),(0,.sl (ps.map ev)),(3,.i ps.length)]) (SH:=fun _=>[]) 0 (fun x=>ps.length - x.i) (LS.start _ _) ?_ ?_
  ·exact wk_go (Nat.le_refl _) (tw_cons rfl (lt_i _ _) (tw_cons rfl (lt_i _ _) (tw_cons rfl (lt_vs _ _) (tw_cons rfl (lt_vs _ _) (tw_cons rfl (lt_i _ _) tw_nil))))) hw_nil
  ·rintro ⟨i,hi,h⟩
   by_cases hlt : i < ps.length
   ·have e1:=ilt hlt
    have e2:=isucc hlt hl
    have e3:=ev_getD hlt
    have e4:=imod hlt
    have e0:=ine0 hlt
    repeat' (first|simp only [go_sem,↓reduceIte,Nat.reduceLT,Nat.reduceEqDiff,Nat.reduceAdd,Nat.reduceLeDiff,reduceCtorEq,imp_self,decide_true,acond_tt,ne_eq,icast,inn,List.length_map,true_and,and_true,e1,e2,e3,e4,e0])
    refine tr_loop hm (ST:=fun x : LS ps.length (cvk ps i)=>[(35,.i x.i),(34,.i ps.length),(33,.sl (ps.map ev)),(4,.i i),(5,.pt 0 0),(6,.i ((i + 1) % ps.length : Nat)),(0,.sl (ps.map ev)),(3,.i ps.length),(24,.i i),(23,.i ps.length),(22,.sl (ps.map ev))]) (SH:=fun _=>[(0,.var (.agg [.i (vx ps i),.i (vy ps i)]))]) 1 (fun x=>ps.length - x.i) (LS.start _ _) ?_ ?_
    ·exact wk_go (Nat.le_refl _) (tw_cons rfl (lt_i _ _) (tw_cons rfl (lt_i _ _) (tw_cons rfl (lt_vs _ _) (tw_cons rfl (lt_i _ _) (tw_cons rfl (.pt _ _ (by decide)) (tw_cons rfl (lt_i _ _) (tw_cons rfl (lt_vs _ _) (tw_cons rfl (lt_i _ _) (tw_cons rfl (lt_i _ _) (tw_cons rfl (lt_i _ _) (tw_cons rfl (lt_vs _ _) tw_nil))))))))))) (hw_cons (by decide) rfl bwk_rfl (lt_agg (lt_cons (lt_i _ _) (lt_cons (lt_i _ _) lt_nil))) hw_nil)
    ·rintro ⟨k,hk,hg⟩
     by_cases hkl : k < ps.length
     ·have f1:=ilt hkl
      have f2:=isucc hkl hl
      have f3:=ev_getD hkl
      have f4:=imlt' hlt
      have f5:=ev_getD (imod_lt hlt)
      repeat' (first|simp only [go_sem,↓reduceIte,Nat.reduceLT,Nat.reduceEqDiff,Nat.reduceAdd,Nat.reduceLeDiff,reduceCtorEq,Bool.not_eq_true',imp_self,decide_true,acond_tt,icast,inn,List.length_map,true_and,and_true,f1,f2,f3,f4,f5]|refine gcst_go ?_|(refine regOk_go ?_; kernel_rfl)|refine acond_split (fun _=>?_) (fun _=>?_)|refine And.intro ?_ ?_)
      all_goals rename_i hc2
      ·rw [cvk_eq] at hc2
       exact leaf_b (LS.fail hlt (LS.fail hkl (by simpa using hc2))).symm
      ·rw [cvk_eq] at hc2
       exact ⟨LS.next hkl hg (by simpa using hc2),Nat.sub_lt_sub_left hkl (Nat.lt_succ_self _),wk_go (by decide) (tw_cons rfl (lt_i _ _) (tw_cons rfl (lt_i _ _) (tw_cons rfl (lt_vs _ _) (tw_cons rfl (lt_i _ _) (tw_cons rfl (.pt _ _ (by decide)) (tw_cons rfl (lt_i _ _) (tw_cons rfl (lt_vs _ _) (tw_cons rfl (lt_i _ _) (tw_cons rfl (lt_i _ _) (tw_cons rfl (lt_i _ _) (tw_cons rfl (lt_vs _ _) tw_nil))))))))))) (hw_cons (by decide) rfl bwk_rfl (lt_agg (lt_cons (lt_i _ _) (lt_cons (lt_i _ _) lt_nil))) hw_nil)⟩
     ·have f1:=inlt hkl
      repeat' (first|simp only [go_sem,↓reduceIte,Nat.reduceLT,Nat.reduceEqDiff,Nat.reduceAdd,reduceCtorEq,decide_false,acond_ff,true_and,and_true,f1,e2])
      exact ⟨LS.next hlt h (LS.done hkl hg),Nat.sub_lt_sub_left hlt (Nat.lt_succ_self _),wk_go (by decide) (tw_cons rfl (lt_i _ _) (tw_cons rfl (lt_i _ _) (tw_cons rfl (lt_vs _ _) (tw_cons rfl (lt_vs _ _) (tw_cons rfl (lt_i _ _) tw_nil))))) hw_nil⟩
   ·have e1:=inlt hlt
    repeat' (first|simp only [go_sem,↓reduceIte,Nat.reduceLT,Nat.reduceEqDiff,Nat.reduceAdd,decide_false,acond_ff,true_and,and_true,e1])
    exact leaf_b (LS.done hlt h).symm
theorem c_rconvex (ps : List (Int × Int)) (hl : ps.length ≤ maxLen) : PCall Tryz.prog 232 [.sl (ps.map ev)] (.b (convex ps)):=by
 refine pcall_of hm Tryz.func232 rfl (by kernel_rfl) (by rw [Tryz.ntmps232]; exact Nat.le_of_ble_eq_true rfl) (lt_cons (lt_vs _ _) lt_nil) (lt_b _ _) ?_
 rw [Tryz.ntmps232,Tryz.results232]
 repeat' (first|simp only [go_sem,↓reduceIte,Nat.reduceLT,Nat.reduceEqDiff,Nat.reduceAdd,reduceCtorEq,Bool.not_eq_true',imp_self,List.length_map,true_and,and_true]|refine acond_split (fun _=>?_) (fun _=>?_))
 ·rename_i hc
  exact leaf_b (convex_no' hc)
 ·rename_i hc
  refine tr_loop hm (ST:=fun x : LS ps.length (fun i=>inr (vx ps i) (vy ps i))=>[(4,.i x.i),(3,.i ps.length),(0,.sl (ps.map ev))]) (SH:=fun _=>[]) 0 (fun x=>ps.length - x.i) (LS.start _ _) ?_ ?_
  ·exact wk_go (Nat.le_refl _) (tw_cons rfl (lt_i _ _) (tw_cons rfl (lt_i _ _) (tw_cons rfl (lt_vs _ _) tw_nil))) hw_nil
  ·rintro ⟨i,hi,h⟩
   by_cases hlt : i < ps.length
   ·have e1:=ilt hlt
    have e2:=isucc hlt hl
    have e3:=ev_getD hlt
    repeat' (first|simp only [go_sem,↓reduceIte,Nat.reduceLT,Nat.reduceEqDiff,Nat.reduceAdd,Nat.reduceLeDiff,reduceCtorEq,imp_self,decide_true,acond_tt,icast,inn,List.length_map,true_and,and_true,e1,e2,e3]|refine cst_go ?_|refine acond_split (fun _=>?_) (fun _=>?_))
    ·rename_i hc2
     exact leaf_b (convex_ir (LS.fail hlt (by simpa using hc2))).symm
    ·rename_i hc2
     exact ⟨LS.next hlt h (by simpa using hc2),Nat.sub_lt_sub_left hlt (Nat.lt_succ_self _),wk_go (by decide) (tw_cons rfl (lt_i _ _) (tw_cons rfl (lt_i _ _) (tw_cons rfl (lt_vs _ _) tw_nil))) hw_nil⟩
   ·have e1:=inlt hlt
    repeat' (first|simp only [go_sem,↓reduceIte,Nat.reduceLT,Nat.reduceEqDiff,Nat.reduceAdd,decide_false,acond_ff,true_and,and_true,e1])
    rw [convex_if' hc (LS.done hlt h)]
    clear h hlt e1
    refine tr_loop hm (ST:=fun x : LS ps.length (cvi ps)=>[(5,.i x.i),(3,.i ps.length),(0,.sl (ps.map ev))]) (SH:=fun _=>[]) 0 (fun x=>ps.length - x.i) (LS.start _ _) ?_ ?_
    ·exact wk_go (Nat.le_refl _) (tw_cons rfl (lt_i _ _) (tw_cons rfl (lt_i _ _) (tw_cons rfl (lt_vs _ _) tw_nil))) hw_nil
    ·rintro ⟨i,hi,h⟩
     by_cases hlt : i < ps.length
     ·have e1:=ilt hlt
      have e2:=isucc hlt hl
      have e3:=ev_getD hlt
      have e4:=imod hlt
      have e0:=ine0 hlt
      repeat' (first|simp only [go_sem,↓reduceIte,Nat.reduceLT,Nat.reduceEqDiff,Nat.reduceAdd,decide_true,acond_tt,ne_eq,true_and,and_true,e1,e2,e4,e0])
      refine tr_loop hm (ST:=fun x : LS ps.length (cvk ps i)=>[(7,.i x.i),(3,.i ps.length),(5,.i i),(6,.i ((i + 1) % ps.length : Nat)),(0,.sl (ps.map ev))]) (SH:=fun _=>[]) 0 (fun x=>ps.length - x.i) (LS.start _ _) ?_ ?_
      ·exact wk_go (Nat.le_refl _) (tw_cons rfl (lt_i _ _) (tw_cons rfl (lt_i _ _) (tw_cons rfl (lt_i _ _) (tw_cons rfl (lt_i _ _) (tw_cons rfl (lt_vs _ _) tw_nil))))) hw_nil
      ·rintro ⟨k,hk,hg⟩
       by_cases hkl : k < ps.length
       ·have f1:=ilt hkl
        have f2:=isucc hkl hl
        have f3:=ev_getD hkl
        have f4:=imlt' hlt
        have f5:=ev_getD (imod_lt hlt)
        repeat' (first|simp only [go_sem,↓reduceIte,Nat.reduceLT,Nat.reduceEqDiff,Nat.reduceAdd,Nat.reduceLeDiff,reduceCtorEq,Bool.not_eq_true',imp_self,decide_true,acond_tt,icast,inn,List.length_map,true_and,and_true,f1,f2,f3,f4,f5,e1,e3]|refine gcst_go ?_|(refine regOk_go ?_; kernel_rfl)|refine acond_split (fun _=>?_) (fun _=>?_)|refine And.intro ?_ ?_)
        all_goals rename_i hc2
        ·rw [cvk_eq] at hc2
         exact leaf_b (LS.fail hlt (LS.fail hkl (by simpa using hc2))).symm
        ·rw [cvk_eq] at hc2
         exact ⟨LS.next hkl hg (by simpa using hc2),Nat.sub_lt_sub_left hkl (Nat.lt_succ_self _),wk_go (by decide) (tw_cons rfl (lt_i _ _) (tw_cons rfl (lt_i _ _) (tw_cons rfl (lt_i _ _) (tw_cons rfl (lt_i _ _) (tw_cons rfl (lt_vs _ _) tw_nil))))) hw_nil⟩
       ·have f1:=inlt hkl
        repeat' (first|simp only [go_sem,↓reduceIte,Nat.reduceLT,Nat.reduceEqDiff,Nat.reduceAdd,decide_false,acond_ff,true_and,and_true,f1,e2])
        exact ⟨LS.next hlt h (LS.done hkl hg),Nat.sub_lt_sub_left hlt (Nat.lt_succ_self _),wk_go (by decide) (tw_cons rfl (lt_i _ _) (tw_cons rfl (lt_i _ _) (tw_cons rfl (lt_vs _ _) tw_nil))) hw_nil⟩
     ·have e1:=inlt hlt
      repeat' (first|simp only [go_sem,↓reduceIte,Nat.reduceLT,Nat.reduceEqDiff,Nat.reduceAdd,decide_false,acond_ff,true_and,and_true,e1])
      exact leaf_b (LS.done hlt h).symm
theorem c_short (ps : List (Int × Int)) (hl : ps.length ≤ maxLen) : PCall Tryz.prog 210 [.sl (ps.map ev)] (.i (shortest ps)):=by
 refine pcall_of hm Tryz.func210 rfl (by kernel_rfl) (by rw [Tryz.ntmps210]; exact Nat.le_of_ble_eq_true rfl) (lt_cons (lt_vs _ _) lt_nil) (lt_i _ _) ?_
 rw [Tryz.ntmps210,Tryz.results210]
 have hcv:=c_convex ps hl
 letI : HasC Tryz.prog 209 [.sl (ps.map ev)] (.b (convex ps)):=⟨hcv⟩
 repeat' (first|simp only [go_sem,↓reduceIte,Nat.reduceLT,Nat.reduceAdd,reduceCtorEq,List.length_map,true_and,and_true]|refine cst_go ?_|refine acond_split (fun _=>?_) (fun _=>?_))
 ·rename_i hc
  refine leaf_i ?_
  unfold shortest
  rw [if_neg (by simpa using hc)]
 ·rename_i hc
  have hcc : convex ps = true:=by simpa using hc
  have hs : shortest ps = seP ps ps.length:=by unfold shortest; rw [if_pos hcc]
  rw [hs]
  refine tr_loop hm (ST:=fun x : Fs ps.length=>[(11,.i x.i),(10,.i ps.length),(9,.sl (ps.map ev)),(0,.sl (ps.map ev)),(3,.i (seP ps x.i))]) (SH:=fun _=>[]) 0 (fun x=>ps.length - x.i) (Fs.start _) ?_ ?_
  ·exact wk_go (Nat.le_refl _) (tw_cons rfl (lt_i _ _) (tw_cons rfl (lt_i _ _) (tw_cons rfl (lt_vs _ _) (tw_cons rfl (lt_vs _ _) (tw_cons rfl (lt_i _ _) tw_nil))))) hw_nil
  ·rintro ⟨i,hi⟩
   by_cases hlt : i < ps.length
   ·have e1:=ilt hlt
    have e2:=isucc hlt hl
    have e3:=ev_getD hlt
    have e4:=imod hlt
    have e0:=ine0 hlt
    have e5:=imlt' hlt
    have e6:=ev_getD (imod_lt hlt)
    repeat' (first|simp only [go_sem,↓reduceIte,Nat.reduceLT,Nat.reduceEqDiff,Nat.reduceAdd,Nat.reduceLeDiff,reduceCtorEq,imp_self,decide_true,acond_tt,ne_eq,icast,inn,List.length_map,true_and,and_true,e1,e2,e3,e4,e0,e5,e6]|refine cst_go ?_|(refine regOk_go ?_; kernel_rfl)|refine And.intro ?_ ?_)
    exact ⟨Fs.next hlt,Nat.sub_lt_sub_left hlt (Nat.lt_succ_self _),wk_go (by decide) (tw_cons rfl (lt_i _ _) (tw_cons rfl (lt_i _ _) (tw_cons rfl (lt_vs _ _) (tw_cons rfl (lt_vs _ _) (tw_cons rfl (lt_i _ _) tw_nil))))) hw_nil⟩
   ·have e1:=inlt hlt
    have hii : i = ps.length:=by omega
    subst hii
    repeat' (first|simp only [go_sem,↓reduceIte,Nat.reduceLT,Nat.reduceEqDiff,Nat.reduceAdd,reduceCtorEq,decide_false,acond_ff,and_true,e1])
    all_goals rfl
theorem c_rshort (ps : List (Int × Int)) (hl : ps.length ≤ maxLen) : PCall Tryz.prog 233 [.sl (ps.map ev)] (.i (shortest ps)):=by
 refine pcall_of hm Tryz.func233 rfl (by kernel_rfl) (by rw [Tryz.ntmps233]; exact Nat.le_of_ble_eq_true rfl) (lt_cons (lt_vs _ _) lt_nil) (lt_i _ _) ?_
 rw [Tryz.ntmps233,Tryz.results233]
 have hcv:=c_rconvex ps hl
 letI : HasC Tryz.prog 232 [.sl (ps.map ev)] (.b (convex ps)):=⟨hcv⟩
 repeat' (first|simp only [go_sem,↓reduceIte,Nat.reduceLT,Nat.reduceAdd,reduceCtorEq,Int.reduceNeg,true_and,and_true]|refine cst_go ?_|refine acond_split (fun _=>?_) (fun _=>?_))
 ·rename_i hc
  refine leaf_i ?_
  unfold shortest
  rw [if_neg (by simpa using hc)]
 ·rename_i hc
  have hcc : convex ps = true:=by simpa using hc
  have hs : shortest ps = seR ps ps.length:=by unfold shortest; rw [if_pos hcc]; exact (seR_eq hcc).symm
  rw [hs]
  refine tr_loop hm (ST:=fun x : Fs ps.length=>[(4,.i x.i),(0,.sl (ps.map ev)),(3,.i (seR ps x.i))]) (SH:=fun _=>[]) 0 (fun x=>ps.length - x.i) (Fs.start _) ?_ ?_
  ·exact wk_go (Nat.le_refl _) (tw_cons rfl (lt_i _ _) (tw_cons rfl (lt_vs _ _) (tw_cons rfl (lt_i _ _) tw_nil))) hw_nil
  ·rintro ⟨i,hi⟩
   by_cases hlt : i < ps.length
   ·have e1:=ilt hlt
    have e2:=isucc hlt hl
    have e3:=ev_getD hlt
    have e4:=imod hlt
    have e0:=ine0 hlt
    have e5:=imlt' hlt
    have e6:=ev_getD (imod_lt hlt)
    repeat' (first|simp only [go_sem,↓reduceIte,Nat.reduceLT,Nat.reduceEqDiff,Nat.reduceAdd,Nat.reduceLeDiff,reduceCtorEq,Bool.not_eq_true',imp_self,decide_true,acond_tt,ne_eq,icast,inn,List.length_map,true_and,and_true,e1,e2,e3,e4,e0,e5,e6]|refine cst_go ?_|(refine regOk_go ?_; kernel_rfl)|refine acond_split (fun _=>?_) (fun _=>?_)|refine And.intro ?_ ?_)
    ·rename_i hc2
     exact ⟨Fs.next hlt,Nat.sub_lt_sub_left hlt (Nat.lt_succ_self _),wk_go (by decide) (tw_cons rfl (lt_i _ _) (tw_cons rfl (lt_vs _ _) (tw_cons (leaf_i (seR_up hc2)) (lt_i _ _) tw_nil))) hw_nil⟩
    ·rename_i hc2
     exact ⟨Fs.next hlt,Nat.sub_lt_sub_left hlt (Nat.lt_succ_self _),wk_go (by decide) (tw_cons rfl (lt_i _ _) (tw_cons rfl (lt_vs _ _) (tw_cons (leaf_i (seR_dn hc2)) (lt_i _ _) tw_nil))) hw_nil⟩
   ·have e1:=inlt hlt
    have hii : i = ps.length:=by omega
    subst hii
    repeat' (first|simp only [go_sem,↓reduceIte,Nat.reduceLT,Nat.reduceEqDiff,Nat.reduceAdd,reduceCtorEq,decide_false,acond_ff,List.length_map,and_true,e1])
    all_goals rfl
theorem c_fan (ps : List (Int × Int)) (hl : ps.length ≤ maxLen) (h3 : 3 ≤ ps.length) (h8 : ps.length ≤ 8) : PCall Tryz.prog 291 [.sl (ps.map ev)] (.tup [.sl (tris ps (ps.length - 2)),.i (fsum ps (ps.length - 2))]):=by
 refine pcall_of hm Tryz.func291 rfl (by kernel_rfl) (by rw [Tryz.ntmps291]; exact Nat.le_of_ble_eq_true rfl) (lt_cons (lt_vs _ _) lt_nil) (lt_tup (lt_cons (lt_stris _ _ _) (lt_cons (lt_i _ _) lt_nil))) ?_
 rw [Tryz.ntmps291,Tryz.results291]
 have e1:=ev_getD (ps:=ps) (i:=0) (by omega)
 have e2 : ((0 : Int) < (ps.length : Int)) = True:=eq_true (by omega)
 repeat' (first|simp only [go_sem,↓reduceIte,Nat.reduceLT,Nat.reduceEqDiff,Nat.reduceAdd,Nat.reduceLeDiff,reduceCtorEq,imp_self,Int.reduceLE,Int.reduceToNat,List.length_map,true_and,and_true,e1,e2])
 refine tr_loop hm (ST:=fun x : Fs (ps.length - 2)=>[(7,.i (x.i + 1 : Nat)),(4,.ow 1 x.i),(5,.i (fsum ps x.i)),(6,.pt 2 0),(0,.sl (ps.map ev))]) (SH:=fun x=>[(1,.row 319 5 x.i (tris ps x.i)),(2,.var (.agg [.i (vx ps 0),.i (vy ps 0)]))]) 3 (fun x=>ps.length - 2 - x.i) (Fs.start _) ?_ ?_
 ·exact wk_go (by decide) (tw_cons rfl (lt_i _ _) (tw_cons rfl (.ow _ _ (by decide)) (tw_cons rfl (lt_i _ _) (tw_cons rfl (.pt _ _ (by decide)) (tw_cons rfl (lt_vs _ _) tw_nil))))) (hw_cons (by decide) rfl (.inr ⟨rfl,_,_,rfl⟩) (lt_tris _ _ _) (hw_cons (by decide) rfl bwk_rfl (lt_agg (lt_cons (lt_i _ _) (lt_cons (lt_i _ _) lt_nil))) hw_nil))
 ·rintro ⟨i,hi⟩
  by_cases hlt : i < ps.length - 2
  ·have f1:=isucc (i:=i + 1) (n:=ps.length) (by omega) hl
   have f2:=ilt (i:=i + 1 + 1) (n:=ps.length) (by omega)
   have f3:=ev_getD (ps:=ps) (i:=i + 1) (by omega)
   have f4:=ev_getD (ps:=ps) (i:=i + 1 + 1) (by omega)
   have f5:=ilt (i:=i + 1) (n:=ps.length) (by omega)
   have f6:=imax_le (i:=i) (n:=ps.length) (by omega) hl
   repeat' (first|simp only [go_sem,↓reduceIte,Nat.reduceLT,Nat.reduceEqDiff,Nat.reduceAdd,Nat.reduceLeDiff,Nat.reduceMul,reduceCtorEq,imp_self,decide_true,acond_tt,List.range_zero,List.range_succ,List.replicate_succ,List.replicate_zero,List.flatten_cons,List.flatten_nil,List.all_cons,List.all_nil,forall_and,icast,inn,List.length_map,true_and,and_true,f1,f2,f3,f4,f5,f6,tris_len]|refine cst_go ?_|(refine regOk_go ?_; kernel_rfl)|refine And.intro ?_ ?_)
   ·omega
   refine ⟨Fs.next hlt,Nat.sub_lt_sub_left hlt (Nat.lt_succ_self _),wk_go (by decide) (tw_cons rfl (lt_i _ _) (tw_cons rfl (.ow _ _ (by decide)) (tw_cons rfl (lt_i _ _) (tw_cons rfl (.pt _ _ (by decide)) (tw_cons rfl (lt_vs _ _) tw_nil))))) (hw_cons (by decide) ?_ bwk_rfl (lt_tris _ _ _) (hw_cons (by decide) rfl bwk_rfl (lt_agg (lt_cons (lt_i _ _) (lt_cons (lt_i _ _) lt_nil))) hw_nil))⟩
   rw [show (Fs.next hlt).i = i + 1 from rfl,tris_succ]
   rfl
  ·have f1:=isucc (i:=i + 1) (n:=ps.length) (by omega) hl
   have f2:=inlt (i:=i + 1 + 1) (n:=ps.length) (by omega)
   have hii : i = ps.length - 2:=by omega
   subst hii
   repeat' (first|simp only [go_sem,↓reduceIte,Nat.reduceLT,Nat.reduceEqDiff,Nat.reduceAdd,reduceCtorEq,decide_false,acond_ff,List.length_map,and_true,f1,f2])
   all_goals rfl
theorem c_area (ps : List (Int × Int)) (hl : ps.length ≤ maxLen) : PCall Tryz.prog 211 [.sl (ps.map ev)] (.i (area ps)):=by
 refine pcall_of hm Tryz.func211 rfl (by kernel_rfl) (by rw [Tryz.ntmps211]; exact Nat.le_of_ble_eq_true rfl) (lt_cons (lt_vs _ _) lt_nil) (lt_i _ _) ?_
 rw [Tryz.ntmps211,Tryz.results211]
 have hcv:=c_convex ps hl
 letI : HasC Tryz.prog 209 [.sl (ps.map ev)] (.b (convex ps)):=⟨hcv⟩
 repeat' (first|simp only [go_sem,↓reduceIte,Nat.reduceLT,Nat.reduceAdd,reduceCtorEq,true_and,and_true]|refine cst_go ?_|refine acond_split (fun _=>?_) (fun _=>?_))
 ·rename_i hc
  refine leaf_i ?_
  unfold area
  rw [if_neg (by simpa using hc)]
 ·rename_i hc
  have hcc : convex ps = true:=by simpa using hc
  have hp:=convex_parts hcc
  refine cst_pure (c_fan ps hl hp.1 hp.2.1) ?_
  repeat' (first|simp only [go_sem,↓reduceIte,Nat.reduceLT,Nat.reduceEqDiff,Nat.reduceAdd,true_and,and_true]|refine cst_go ?_)
  all_goals (refine leaf_i ?_; unfold area; rw [if_pos hcc])
theorem c_rcr (ps : List (Int × Int)) (hl : ps.length ≤ maxLen) (i : Nat) (hi : i + 1 < ps.length) : PCall Tryz.prog 310 [.sl (ps.map ev),.i i] (.i (cr ps i)):=by
 refine pcall_of hm Tryz.func310 rfl (by kernel_rfl) (by rw [Tryz.ntmps310]; exact Nat.le_of_ble_eq_true rfl) (lt_cons (lt_vs _ _) (lt_cons (lt_i _ _) lt_nil)) (lt_i _ _) ?_
 rw [Tryz.ntmps310,Tryz.results310]
 have e1:=ev_getD (ps:=ps) (i:=0) (by omega)
 have e2 : ((0 : Int) < (ps.length : Int)) = True:=eq_true (by omega)
 have e3:=isucc (i:=i) (n:=ps.length) (by omega) hl
 have f1:=ilt (i:=i) (n:=ps.length) (by omega)
 have f2:=ilt (i:=i + 1) (n:=ps.length) (by omega)
 have f3:=ev_getD (ps:=ps) (i:=i) (by omega)
 have f4:=ev_getD (ps:=ps) (i:=i + 1) (by omega)
 repeat' (first|simp only [go_sem,↓reduceIte,Nat.reduceLT,Nat.reduceEqDiff,Nat.reduceAdd,Nat.reduceLeDiff,reduceCtorEq,imp_self,Int.reduceLE,Int.reduceToNat,icast,inn,List.length_map,true_and,and_true,e1,e2,e3,f1,f2,f3,f4]|refine cst_go ?_|(refine regOk_go ?_; kernel_rfl)|refine And.intro ?_ ?_)
 all_goals rfl
theorem c_rarea (ps : List (Int × Int)) (hl : ps.length ≤ maxLen) : PCall Tryz.prog 234 [.sl (ps.map ev)] (.i (area ps)):=by
 refine pcall_of hm Tryz.func234 rfl (by kernel_rfl) (by rw [Tryz.ntmps234]; exact Nat.le_of_ble_eq_true rfl) (lt_cons (lt_vs _ _) lt_nil) (lt_i _ _) ?_
 rw [Tryz.ntmps234,Tryz.results234]
 have hcv:=c_rconvex ps hl
 letI : HasC Tryz.prog 232 [.sl (ps.map ev)] (.b (convex ps)):=⟨hcv⟩
 repeat' (first|simp only [go_sem,↓reduceIte,Nat.reduceLT,Nat.reduceAdd,reduceCtorEq,true_and,and_true]|refine cst_go ?_|refine acond_split (fun _=>?_) (fun _=>?_))
 ·rename_i hc
  refine leaf_i ?_
  unfold area
  rw [if_neg (by simpa using hc)]
 ·rename_i hc
  have hcc : convex ps = true:=by simpa using hc
  have hp:=convex_parts hcc
  have ha : area ps = rdiv (fsum ps (ps.length - 2)) 2:=by unfold area; rw [if_pos hcc]
  rw [ha]
  refine tr_loop hm (ST:=fun x : Fs (ps.length - 2)=>[(4,.i (x.i + 1 : Nat)),(3,.i (fsum ps x.i)),(0,.sl (ps.map ev))]) (SH:=fun _=>[]) 0 (fun x=>ps.length - 2 - x.i) (Fs.start _) ?_ ?_
  ·exact wk_go (by decide) (tw_cons rfl (lt_i _ _) (tw_cons rfl (lt_i _ _) (tw_cons rfl (lt_vs _ _) tw_nil))) hw_nil
  ·rintro ⟨i,hi⟩
   by_cases hlt : i < ps.length - 2
   ·have f1:=isucc (i:=i + 1) (n:=ps.length) (by omega) hl
    have f2:=ilt (i:=i + 1 + 1) (n:=ps.length) (by omega)
    repeat' (first|simp only [go_sem,↓reduceIte,Nat.reduceLT,Nat.reduceEqDiff,Nat.reduceAdd,reduceCtorEq,decide_true,acond_tt,List.length_map,true_and,and_true,f1,f2])
    refine cst_pure (c_rcr ps hl (i + 1) (by omega)) ?_
    repeat' (first|simp only [go_sem,↓reduceIte,Nat.reduceLT,Nat.reduceEqDiff,Nat.reduceAdd,true_and,and_true,f1])
    exact ⟨Fs.next hlt,Nat.sub_lt_sub_left hlt (Nat.lt_succ_self _),wk_go (by decide) (tw_cons rfl (lt_i _ _) (tw_cons rfl (lt_i _ _) (tw_cons rfl (lt_vs _ _) tw_nil))) hw_nil⟩
   ·have f1:=isucc (i:=i + 1) (n:=ps.length) (by omega) hl
    have f2:=inlt (i:=i + 1 + 1) (n:=ps.length) (by omega)
    have hii : i = ps.length - 2:=by omega
    subst hii
    repeat' (first|simp only [go_sem,↓reduceIte,Nat.reduceLT,Nat.reduceEqDiff,Nat.reduceAdd,reduceCtorEq,decide_false,acond_ff,List.length_map,true_and,and_true,f1,f2]|refine cst_go ?_)
    all_goals rfl
end Go.Proofs.YtplmagdbnbijlaaGreat
/-
 What the functions of chapters 5 and 10 compute. Conditions: none.
-/
namespace Go.Proofs.YtplmagdbnbijlaaGreat
open Go.RowKit Go.AL Go.Carom
theorem c_bsatd (x y : Int) : PCall Tryz.prog 184 [.agg [.i x,.i y]] (.b (vsatd x y)):=by
 refine pcall_of hm Tryz.func184 rfl (by kernel_rfl) (by rw [Tryz.ntmps184]; exact Nat.le_of_ble_eq_true rfl) (lt_cons (lt_agg (lt_cons (lt_i _ _) (lt_cons (lt_i _ _) lt_nil))) lt_nil) (lt_b _ _) ?_
 rw [Tryz.ntmps184,Tryz.results184]
 repeat' (first|simp only [go_sem,↓reduceIte,Nat.reduceLT,Nat.reduceEqDiff,Nat.reduceAdd,Nat.reduceLeDiff,reduceCtorEq,imp_self]|refine cst_go ?_|refine gcst_go ?_|(refine regOk_go ?_; kernel_rfl)|refine And.intro ?_ ?_)
 all_goals rfl
instance (x y : Int) : HasC Tryz.prog 184 [.agg [.i x,.i y]] (.b (vsatd x y)):=⟨c_bsatd x y⟩
theorem c_bsat (x y : Int) : PCall Tryz.prog 265 [.agg [.i x,.i y]] (.agg [.i (sat x),.i (sat y)]):=by
 refine pcall_of hm Tryz.func265 rfl (by kernel_rfl) (by rw [Tryz.ntmps265]; exact Nat.le_of_ble_eq_true rfl) (lt_cons (lt_agg (lt_cons (lt_i _ _) (lt_cons (lt_i _ _) lt_nil))) lt_nil) (lt_agg (lt_cons (lt_i _ _) (lt_cons (lt_i _ _) lt_nil))) ?_
 rw [Tryz.ntmps265,Tryz.results265]
 repeat' (first|simp only [go_sem,↓reduceIte,Nat.reduceLT,Nat.reduceEqDiff,Nat.reduceAdd,Nat.reduceLeDiff,reduceCtorEq,imp_self]|refine cst_go ?_|(refine regOk_go ?_; kernel_rfl))
 all_goals rfl
instance (x y : Int) : HasC Tryz.prog 265 [.agg [.i x,.i y]] (.agg [.i (sat x),.i (sat y)]):=⟨c_bsat x y⟩
theorem c_rbsat (x y : Int) : PCall Tryz.prog 177 [.agg [.i x,.i y]] (.agg [.i (sat x),.i (sat y)]):=by
 refine pcall_of hm Tryz.func177 rfl (by kernel_rfl) (by rw [Tryz.ntmps177]; exact Nat.le_of_ble_eq_true rfl) (lt_cons (lt_agg (lt_cons (lt_i _ _) (lt_cons (lt_i _ _) lt_nil))) lt_nil) (lt_agg (lt_cons (lt_i _ _) (lt_cons (lt_i _ _) lt_nil))) ?_
 rw [Tryz.ntmps177,Tryz.results177]
 repeat' (first|simp only [go_sem,↓reduceIte,Nat.reduceLT,Nat.reduceEqDiff,Nat.reduceAdd,Nat.reduceLeDiff,reduceCtorEq,imp_self]|refine cst_go ?_|(refine regOk_go ?_; kernel_rfl))
 all_goals rfl
instance (x y : Int) : HasC Tryz.prog 177 [.agg [.i x,.i y]] (.agg [.i (sat x),.i (sat y)]):=⟨c_rbsat x y⟩
theorem c_lower (x y u v : Int) : PCall Tryz.prog 266 [.agg [.i x,.i y],.agg [.i u,.i v]] (.agg [.i (imin x u),.i (imin y v)]):=by
 refine pcall_of hm Tryz.func266 rfl (by kernel_rfl) (by rw [Tryz.ntmps266]; exact Nat.le_of_ble_eq_true rfl) (lt_cons (lt_agg (lt_cons (lt_i _ _) (lt_cons (lt_i _ _) lt_nil))) (lt_cons (lt_agg (lt_cons (lt_i _ _) (lt_cons (lt_i _ _) lt_nil))) lt_nil)) (lt_agg (lt_cons (lt_i _ _) (lt_cons (lt_i _ _) lt_nil))) ?_
 rw [Tryz.ntmps266,Tryz.results266]
 repeat' (first|simp only [go_sem,↓reduceIte,Nat.reduceLT,Nat.reduceEqDiff,Nat.reduceAdd,Nat.reduceLeDiff,reduceCtorEq,imp_self])
 all_goals rfl
instance (x y u v : Int) : HasC Tryz.prog 266 [.agg [.i x,.i y],.agg [.i u,.i v]] (.agg [.i (imin x u),.i (imin y v)]):=⟨c_lower x y u v⟩
theorem c_upper (x y u v : Int) : PCall Tryz.prog 267 [.agg [.i x,.i y],.agg [.i u,.i v]] (.agg [.i (imax x u),.i (imax y v)]):=by
 refine pcall_of hm Tryz.func267 rfl (by kernel_rfl) (by rw [Tryz.ntmps267]; exact Nat.le_of_ble_eq_true rfl) (lt_cons (lt_agg (lt_cons (lt_i _ _) (lt_cons (lt_i _ _) lt_nil))) (lt_cons (lt_agg (lt_cons (lt_i _ _) (lt_cons (lt_i _ _) lt_nil))) lt_nil)) (lt_agg (lt_cons (lt_i _ _) (lt_cons (lt_i _ _) lt_nil))) ?_
 rw [Tryz.ntmps267,Tryz.results267]
 repeat' (first|simp only [go_sem,↓reduceIte,Nat.reduceLT,Nat.reduceEqDiff,Nat.reduceAdd,Nat.reduceLeDiff,reduceCtorEq,imp_self])
 all_goals rfl
instance (x y u v : Int) : HasC Tryz.prog 267 [.agg [.i x,.i y],.agg [.i u,.i v]] (.agg [.i (imax x u),.i (imax y v)]):=⟨c_upper x y u v⟩
theorem c_bvalid (x y u v : Int) : PCall Tryz.prog 121 [.agg [.i x,.i y,.i u,.i v]] (.b (bvalid x y u v)):=by
 refine pcall_of hm Tryz.func121 rfl (by kernel_rfl) (by rw [Tryz.ntmps121]; exact Nat.le_of_ble_eq_true rfl) (lt_cons (lt_agg (lt_cons (lt_i _ _) (lt_cons (lt_i _ _) (lt_cons (lt_i _ _) (lt_cons (lt_i _ _) lt_nil))))) lt_nil) (lt_b _ _) ?_
 rw [Tryz.ntmps121,Tryz.results121]
 repeat' (first|simp only [go_sem,↓reduceIte,Nat.reduceLT,Nat.reduceEqDiff,Nat.reduceAdd,Nat.reduceLeDiff,reduceCtorEq,imp_self]|refine gcst_go ?_)
 all_goals rfl
instance (x y u v : Int) : HasC Tryz.prog 121 [.agg [.i x,.i y,.i u,.i v]] (.b (bvalid x y u v)):=⟨c_bvalid x y u v⟩
theorem c_rbvalid (x y u v : Int) : PCall Tryz.prog 114 [.agg [.i x,.i y,.i u,.i v]] (.b (bvalid x y u v)):=by
 refine pcall_of hm Tryz.func114 rfl (by kernel_rfl) (by rw [Tryz.ntmps114]; exact Nat.le_of_ble_eq_true rfl) (lt_cons (lt_agg (lt_cons (lt_i _ _) (lt_cons (lt_i _ _) (lt_cons (lt_i _ _) (lt_cons (lt_i _ _) lt_nil))))) lt_nil) (lt_b _ _) ?_
 rw [Tryz.ntmps114,Tryz.results114]
 repeat' (first|simp only [go_sem,↓reduceIte,Nat.reduceLT,Nat.reduceEqDiff,Nat.reduceAdd,Nat.reduceLeDiff,reduceCtorEq,imp_self,or_false]|refine gcst_go ?_|(refine regOk_go ?_; kernel_rfl)|refine And.intro ?_ ?_)
 all_goals (refine leaf_b ?_; unfold bvalid vsatd; rw [Bool.eq_iff_iff]; simp; try omega)
instance (x y u v : Int) : HasC Tryz.prog 114 [.agg [.i x,.i y,.i u,.i v]] (.b (bvalid x y u v)):=⟨c_rbvalid x y u v⟩
theorem c_bover (x y u v x' y' u' v' : Int) : PCall Tryz.prog 124 [.agg [.i x,.i y,.i u,.i v],.agg [.i x',.i y',.i u',.i v']] (.b (bover x y u v x' y' u' v')):=by
 refine pcall_of hm Tryz.func124 rfl (by kernel_rfl) (by rw [Tryz.ntmps124]; exact Nat.le_of_ble_eq_true rfl) (lt_cons (lt_agg (lt_cons (lt_i _ _) (lt_cons (lt_i _ _) (lt_cons (lt_i _ _) (lt_cons (lt_i _ _) lt_nil))))) (lt_cons (lt_agg (lt_cons (lt_i _ _) (lt_cons (lt_i _ _) (lt_cons (lt_i _ _) (lt_cons (lt_i _ _) lt_nil))))) lt_nil)) (lt_b _ _) ?_
 rw [Tryz.ntmps124,Tryz.results124]
 repeat' (first|simp only [go_sem,↓reduceIte,Nat.reduceLT,Nat.reduceEqDiff,Nat.reduceAdd,Nat.reduceLeDiff,reduceCtorEq,imp_self])
 all_goals rfl
instance (x y u v x' y' u' v' : Int) : HasC Tryz.prog 124 [.agg [.i x,.i y,.i u,.i v],.agg [.i x',.i y',.i u',.i v']] (.b (bover x y u v x' y' u' v')):=⟨c_bover x y u v x' y' u' v'⟩
theorem c_boverlaps (x y u v x' y' u' v' : Int) : PCall Tryz.prog 73 [.agg [.i x,.i y,.i u,.i v],.agg [.i x',.i y',.i u',.i v']] (.b (boverlaps x y u v x' y' u' v')):=by
 refine pcall_of hm Tryz.func73 rfl (by kernel_rfl) (by rw [Tryz.ntmps73]; exact Nat.le_of_ble_eq_true rfl) (lt_cons (lt_agg (lt_cons (lt_i _ _) (lt_cons (lt_i _ _) (lt_cons (lt_i _ _) (lt_cons (lt_i _ _) lt_nil))))) (lt_cons (lt_agg (lt_cons (lt_i _ _) (lt_cons (lt_i _ _) (lt_cons (lt_i _ _) (lt_cons (lt_i _ _) lt_nil))))) lt_nil)) (lt_b _ _) ?_
 rw [Tryz.ntmps73,Tryz.results73]
 repeat' (first|simp only [go_sem,↓reduceIte,Nat.reduceLT,Nat.reduceEqDiff,Nat.reduceAdd,Nat.reduceLeDiff,reduceCtorEq,imp_self]|refine cst_go ?_|refine gcst_go ?_)
 all_goals rfl
instance (x y u v x' y' u' v' : Int) : HasC Tryz.prog 73 [.agg [.i x,.i y,.i u,.i v],.agg [.i x',.i y',.i u',.i v']] (.b (boverlaps x y u v x' y' u' v')):=⟨c_boverlaps x y u v x' y' u' v'⟩
theorem c_rboverlaps (x y u v x' y' u' v' : Int) : PCall Tryz.prog 64 [.agg [.i x,.i y,.i u,.i v],.agg [.i x',.i y',.i u',.i v']] (.b (boverlaps x y u v x' y' u' v')):=by
 refine pcall_of hm Tryz.func64 rfl (by kernel_rfl) (by rw [Tryz.ntmps64]; exact Nat.le_of_ble_eq_true rfl) (lt_cons (lt_agg (lt_cons (lt_i _ _) (lt_cons (lt_i _ _) (lt_cons (lt_i _ _) (lt_cons (lt_i _ _) lt_nil))))) (lt_cons (lt_agg (lt_cons (lt_i _ _) (lt_cons (lt_i _ _) (lt_cons (lt_i _ _) (lt_cons (lt_i _ _) lt_nil))))) lt_nil)) (lt_b _ _) ?_
 rw [Tryz.ntmps64,Tryz.results64]
 repeat' (first|simp only [go_sem,↓reduceIte,Nat.reduceLT,Nat.reduceEqDiff,Nat.reduceAdd,Nat.reduceLeDiff,reduceCtorEq,imp_self]|refine cst_go ?_|refine gcst_go ?_)
 all_goals (refine leaf_b ?_; simp only [boverlaps,bover,Bool.and_assoc])
instance (x y u v x' y' u' v' : Int) : HasC Tryz.prog 64 [.agg [.i x,.i y,.i u,.i v],.agg [.i x',.i y',.i u',.i v']] (.b (boverlaps x y u v x' y' u' v')):=⟨c_rboverlaps x y u v x' y' u' v'⟩
theorem c_fromp (ps : List (Int × Int)) (hl : ps.length ≤ maxLen) (hp : 0 < ps.length) : PCall Tryz.prog 181 [.sl (ps.map ev)] (.tup [.agg [.i (loX ps (ps.length - 1)),.i (loY ps (ps.length - 1)),.i (hiX ps (ps.length - 1)),.i (hiY ps (ps.length - 1))],.b true]):=by
 refine pcall_of hm Tryz.func181 rfl (by kernel_rfl) (by rw [Tryz.ntmps181]; exact Nat.le_of_ble_eq_true rfl) (lt_cons (lt_vs _ _) lt_nil) (lt_tup (lt_cons (lt_agg (lt_cons (lt_i _ _) (lt_cons (lt_i _ _) (lt_cons (lt_i _ _) (lt_cons (lt_i _ _) lt_nil))))) (lt_cons (lt_b _ _) lt_nil))) ?_
 rw [Tryz.ntmps181,Tryz.results181]
 have e1 : ((ps.length : Int) = 0) = False:=eq_false (by omega)
 have e2:=ev_getD hp
 have e4:=vs_take ps
 have e5:=vs_tail ps
 have e6 : ((1 : Int) ≤ (ps.length : Int)) = True:=eq_true (by omega)
 have e7 : ((0 : Int) < (ps.length : Int)) = True:=eq_true (by omega)
 repeat' (first|simp only [go_sem,↓reduceIte,Nat.reduceLT,Nat.reduceEqDiff,Nat.reduceAdd,Nat.reduceLeDiff,reduceCtorEq,imp_self,Int.reduceLE,decide_false,acond_ff,Int.reduceToNat,icast,List.length_map,true_and,and_true,e1,e2,e4,e5,e6,e7,Int.le_refl]|refine cst_go ?_|refine And.intro ?_ ?_)
 ·exact of_eq_true (vs_all ps)
 have hdl : (ps.drop 1).length = ps.length - 1:=by simp
 refine tr_loop hm (ST:=fun x : Fs (ps.drop 1).length=>[(22,.i x.i),(21,.i (ps.drop 1).length),(20,.sl ((ps.drop 1).map ev)),(5,.pt 2 0),(2,.pt 0 0)]) (SH:=fun x=>[(0,.var (.agg [.i 0,.i 0,.i 0,.i 0])),(2,.var (.agg [.i (loX ps x.i),.i (loY ps x.i),.i (hiX ps x.i),.i (hiY ps x.i)]))]) 3 (fun x=>(ps.drop 1).length - x.i) (Fs.start _) ?_ ?_
 ·exact wk_go (Nat.le_refl _) (tw_cons rfl (lt_i _ _) (tw_cons rfl (lt_i _ _) (tw_cons rfl (lt_vs _ _) (tw_cons rfl (.pt _ _ (by decide)) (tw_cons rfl (.pt _ _ (by decide)) tw_nil))))) (hw_cons (by decide) rfl bwk_rfl (lt_agg (lt_cons (lt_i _ _) (lt_cons (lt_i _ _) (lt_cons (lt_i _ _) (lt_cons (lt_i _ _) lt_nil))))) (hw_cons (by decide) rfl bwk_rfl (lt_agg (lt_cons (lt_i _ _) (lt_cons (lt_i _ _) (lt_cons (lt_i _ _) (lt_cons (lt_i _ _) lt_nil))))) hw_nil))
 ·rintro ⟨i,hi⟩
  by_cases hlt : i < (ps.drop 1).length
  ·have f1:=ilt hlt
   have f2:=isucc hlt (by omega)
   have f3:=ev_getD hlt
   rw [vx_drop,vy_drop] at f3
   repeat' (first|simp only [go_sem,↓reduceIte,Nat.reduceLT,Nat.reduceEqDiff,Nat.reduceAdd,Nat.reduceLeDiff,reduceCtorEq,imp_self,decide_true,acond_tt,icast,inn,List.length_map,true_and,and_true,f1,f2,f3]|refine cst_go ?_)
   exact ⟨Fs.next hlt,Nat.sub_lt_sub_left hlt (Nat.lt_succ_self _),wk_go (by decide) (tw_cons rfl (lt_i _ _) (tw_cons rfl (lt_i _ _) (tw_cons rfl (lt_vs _ _) (tw_cons rfl (.pt _ _ (by decide)) (tw_cons rfl (.pt _ _ (by decide)) tw_nil))))) (hw_cons (by decide) rfl bwk_rfl (lt_agg (lt_cons (lt_i _ _) (lt_cons (lt_i _ _) (lt_cons (lt_i _ _) (lt_cons (lt_i _ _) lt_nil))))) (hw_cons (by decide) rfl bwk_rfl (lt_agg (lt_cons (lt_i _ _) (lt_cons (lt_i _ _) (lt_cons (lt_i _ _) (lt_cons (lt_i _ _) lt_nil))))) hw_nil))⟩
  ·have f1:=inlt hlt
   have hii : i = ps.length - 1:=by omega
   subst hii
   repeat' (first|simp only [go_sem,↓reduceIte,Nat.reduceLT,Nat.reduceEqDiff,Nat.reduceAdd,Nat.reduceLeDiff,reduceCtorEq,imp_self,decide_false,acond_ff,and_true,f1])
   all_goals rfl
theorem c_ssat (x y : Int) : PCall Tryz.prog 296 [.agg [.i x,.i y]] (.agg [.i (sat x),.i (sat y)]):=by
 refine pcall_of hm Tryz.func296 rfl (by kernel_rfl) (by rw [Tryz.ntmps296]; exact Nat.le_of_ble_eq_true rfl) (lt_cons (lt_agg (lt_cons (lt_i _ _) (lt_cons (lt_i _ _) lt_nil))) lt_nil) (lt_agg (lt_cons (lt_i _ _) (lt_cons (lt_i _ _) lt_nil))) ?_
 rw [Tryz.ntmps296,Tryz.results296]
 repeat' (first|simp only [go_sem,↓reduceIte,Nat.reduceLT,Nat.reduceEqDiff,Nat.reduceAdd,Nat.reduceLeDiff,reduceCtorEq,imp_self]|refine cst_go ?_|(refine regOk_go ?_; kernel_rfl))
 all_goals rfl
instance (x y : Int) : HasC Tryz.prog 296 [.agg [.i x,.i y]] (.agg [.i (sat x),.i (sat y)]):=⟨c_ssat x y⟩
theorem c_rssat (x y : Int) : PCall Tryz.prog 313 [.agg [.i x,.i y]] (.agg [.i (sat x),.i (sat y)]):=by
 refine pcall_of hm Tryz.func313 rfl (by kernel_rfl) (by rw [Tryz.ntmps313]; exact Nat.le_of_ble_eq_true rfl) (lt_cons (lt_agg (lt_cons (lt_i _ _) (lt_cons (lt_i _ _) lt_nil))) lt_nil) (lt_agg (lt_cons (lt_i _ _) (lt_cons (lt_i _ _) lt_nil))) ?_
 rw [Tryz.ntmps313,Tryz.results313]
 repeat' (first|simp only [go_sem,↓reduceIte,Nat.reduceLT,Nat.reduceEqDiff,Nat.reduceAdd,Nat.reduceLeDiff,reduceCtorEq,imp_self]|refine cst_go ?_|(refine regOk_go ?_; kernel_rfl))
 all_goals rfl
instance (x y : Int) : HasC Tryz.prog 313 [.agg [.i x,.i y]] (.agg [.i (sat x),.i (sat y)]):=⟨c_rssat x y⟩
theorem c_rfromp (ps : List (Int × Int)) (hl : ps.length ≤ maxLen) (hp : 0 < ps.length) : PCall Tryz.prog 351 [.sl (ps.map ev)] (.tup [.agg [.i (loX ps (ps.length - 1)),.i (loY ps (ps.length - 1)),.i (hiX ps (ps.length - 1)),.i (hiY ps (ps.length - 1))],.b true]):=by
 refine pcall_of hm Tryz.func351 rfl (by kernel_rfl) (by rw [Tryz.ntmps351]; exact Nat.le_of_ble_eq_true rfl) (lt_cons (lt_vs _ _) lt_nil) (lt_tup (lt_cons (lt_agg (lt_cons (lt_i _ _) (lt_cons (lt_i _ _) (lt_cons (lt_i _ _) (lt_cons (lt_i _ _) lt_nil))))) (lt_cons (lt_b _ _) lt_nil))) ?_
 rw [Tryz.ntmps351,Tryz.results351]
 have e1 : ((ps.length : Int) = 0) = False:=eq_false (by omega)
 have e2:=ev_getD hp
 have e3 : ((0 : Int) < (ps.length : Int)) = True:=eq_true (by omega)
 repeat' (first|simp only [go_sem,↓reduceIte,Nat.reduceLT,Nat.reduceEqDiff,Nat.reduceAdd,Nat.reduceLeDiff,reduceCtorEq,imp_self,Int.reduceLE,decide_false,acond_ff,Int.reduceToNat,List.length_map,true_and,and_true,e1,e2,e3]|refine cst_go ?_)
 refine tr_lp hm [0,2,5] [0] (fun x : Fs (ps.length - 1)=>[(6,.i ((x.i + 1 : Nat) : Int))]) (fun x : Fs (ps.length - 1)=>[(2,.var (.agg [.i (loX ps x.i),.i (loY ps x.i),.i (hiX ps x.i),.i (hiY ps x.i)]))]) (fun x=>ps.length - 1 - x.i) (Fs.start _) ?_ ?_ ?_
 ·repeat' (first|exact tw_nil|refine tw_cons rfl ?_ ?_|exact lt_i _ _|exact Lt.pt _ _ (by decide)|exact lt_vs _ _)
  all_goals rfl
 ·repeat' (first|exact hw_nil|refine hw_cons (by decide) rfl bwk_rfl ?_ ?_|exact lt_i _ _|refine lt_agg ?_|exact lt_nil|refine lt_cons ?_ ?_)
  all_goals rfl
 ·rintro ⟨i,hi⟩
  by_cases hlt : i + 1 < ps.length
  ·have f1:=ilt hlt
   have f2:=isucc hlt hl
   have f3:=ev_getD hlt
   repeat' (first|simp only [go_sem,↓reduceIte,Nat.reduceLT,Nat.reduceEqDiff,Nat.reduceAdd,Nat.reduceLeDiff,reduceCtorEq,imp_self,decide_true,acond_tt,icast,inn,List.length_map,true_and,and_true,f1,f2,f3]|refine cst_go ?_)
   refine ⟨Fs.next (i:=i) (by omega),by show ps.length - 1 - (i + 1) < ps.length - 1 - i; omega,wk_go (by decide) ?_ ?_⟩
   ·repeat' (first|exact tw_nil|refine tw_cons rfl ?_ ?_|exact lt_i _ _|exact Lt.pt _ _ (by decide)|exact lt_vs _ _)
    all_goals rfl
   ·repeat' (first|exact hw_nil|refine hw_cons (by decide) rfl bwk_rfl ?_ ?_|exact lt_i _ _|refine lt_agg ?_|exact lt_nil|refine lt_cons ?_ ?_)
    all_goals rfl
  ·have f1:=inlt hlt
   have hii : i = ps.length - 1:=by omega
   subst hii
   repeat' (first|simp only [go_sem,↓reduceIte,Nat.reduceLT,Nat.reduceEqDiff,Nat.reduceAdd,Nat.reduceLeDiff,reduceCtorEq,imp_self,decide_false,acond_ff,List.length_map,and_true,f1])
   all_goals rfl
end Go.Proofs.YtplmagdbnbijlaaGreat
/-
 What the functions of chapter 10 compute. Conditions: none.
-/
namespace Go.Proofs.YtplmagdbnbijlaaGreat
open Go.RowKit Go.AL Go.Carom
theorem c_frat (n d : Int) : PCall Tryz.prog 299 [.i n,.i d] (.i (frat n d)):=by
 refine pcall_of hm Tryz.func299 rfl (by kernel_rfl) (by rw [Tryz.ntmps299]; exact Nat.le_of_ble_eq_true rfl) (lt_cons (lt_i _ _) (lt_cons (lt_i _ _) lt_nil)) (lt_i _ _) ?_
 rw [Tryz.ntmps299,Tryz.results299]
 repeat' (first|simp only [go_sem,↓reduceIte,Nat.reduceLT,Nat.reduceEqDiff,Nat.reduceAdd,reduceCtorEq,Bool.not_eq_true',imp_self]|refine cst_go ?_|refine acond_split (fun _=>?_) (fun _=>?_))
 all_goals (try simp only [decide_eq_true_eq,decide_eq_false_iff_not,Bool.or_eq_true,Bool.or_eq_false_iff] at *)
 all_goals (refine leaf_i ?_)
 all_goals first
  | rw [frat_0 (by omega)]
  | rw [frat_1 (by omega) (by omega)]
  | rw [frat_2 (by omega) (by omega) (by omega),w64_id (by omega) (by omega)]
  | (rw [frat_3 (by omega) (by omega) (by omega)]; first|rfl|exact imin_comm _ _)
instance (n d : Int) : HasC Tryz.prog 299 [.i n,.i d] (.i (frat n d)):=⟨c_frat n d⟩
theorem c_rfrat (n d : Int) : PCall Tryz.prog 317 [.i n,.i d] (.i (frat n d)):=by
 refine pcall_of hm Tryz.func317 rfl (by kernel_rfl) (by rw [Tryz.ntmps317]; exact Nat.le_of_ble_eq_true rfl) (lt_cons (lt_i _ _) (lt_cons (lt_i _ _) lt_nil)) (lt_i _ _) ?_
 rw [Tryz.ntmps317,Tryz.results317]
 repeat' (first|simp only [go_sem,↓reduceIte,Nat.reduceLT,Nat.reduceEqDiff,Nat.reduceAdd,reduceCtorEq,Bool.not_eq_true',imp_self,Int.reduceNeg]|refine cst_go ?_|refine gcst_go ?_|refine acond_split (fun _=>?_) (fun _=>?_))
 all_goals (try simp only [decide_eq_true_eq,decide_eq_false_iff_not,Bool.or_eq_true,Bool.or_eq_false_iff] at *)
 all_goals (refine leaf_i ?_)
 all_goals first
  | rw [frat_0 (by omega)]
  | rw [frat_1 (by omega) (by omega)]
  | rw [frat_2 (by omega) (by omega) (by omega),w64_id (by omega) (by omega)]
  | (rw [frat_3 (by omega) (by omega) (by omega)]; first|rfl|exact imin_comm _ _)
instance (n d : Int) : HasC Tryz.prog 317 [.i n,.i d] (.i (frat n d)):=⟨c_rfrat n d⟩
instance (a b c d : Int) : HasC Tryz.prog 181 [.sl [.agg [.i a,.i b],.agg [.i c,.i d]]] (.tup [.agg [.i (imin (sat a) (sat c)),.i (imin (sat b) (sat d)),.i (imax (sat a) (sat c)),.i (imax (sat b) (sat d))],.b true]):=
 ⟨c_fromp [(a,b),(c,d)] (by simp [maxLen]) (by simp)⟩
instance (a b c d : Int) : HasC Tryz.prog 351 [.sl [.agg [.i a,.i b],.agg [.i c,.i d]]] (.tup [.agg [.i (imin (sat a) (sat c)),.i (imin (sat b) (sat d)),.i (imax (sat a) (sat c)),.i (imax (sat b) (sat d))],.b true]):=
 ⟨c_rfromp [(a,b),(c,d)] (by simp [maxLen]) (by simp)⟩
theorem c_segx (ax ay bx byy cx cy dx dy : Int) : PCall Tryz.prog 295 [.agg [.i ax,.i ay],.agg [.i bx,.i byy],.agg [.i cx,.i cy],.agg [.i dx,.i dy]] (.b (segx ax ay bx byy cx cy dx dy)):=by
 refine pcall_of hm Tryz.func295 rfl (by kernel_rfl) (by rw [Tryz.ntmps295]; exact Nat.le_of_ble_eq_true rfl) (lt_cons (lt_agg (lt_cons (lt_i _ _) (lt_cons (lt_i _ _) lt_nil))) (lt_cons (lt_agg (lt_cons (lt_i _ _) (lt_cons (lt_i _ _) lt_nil))) (lt_cons (lt_agg (lt_cons (lt_i _ _) (lt_cons (lt_i _ _) lt_nil))) (lt_cons (lt_agg (lt_cons (lt_i _ _) (lt_cons (lt_i _ _) lt_nil))) lt_nil)))) (lt_b _ _) ?_
 rw [Tryz.ntmps295,Tryz.results295]
 repeat' (first|simp only [go_sem,↓reduceIte,Nat.reduceLT,Nat.reduceEqDiff,Nat.reduceAdd,Nat.reduceLeDiff,Nat.reduceMul,reduceCtorEq,Bool.not_eq_true',imp_self,List.range_zero,List.range_succ,List.replicate_succ,List.replicate_zero,List.flatten_cons,List.flatten_nil,List.all_cons,List.all_nil]|refine cst_go ?_|refine gcst_go ?_|(refine regOk_go ?_; kernel_rfl)|refine And.intro ?_ ?_)
 all_goals first|rfl|(refine leaf_b ?_; unfold segx seg2; rw [Bool.eq_iff_iff]; simp; try omega)
instance (ax ay bx byy cx cy dx dy : Int) : HasC Tryz.prog 295 [.agg [.i ax,.i ay],.agg [.i bx,.i byy],.agg [.i cx,.i cy],.agg [.i dx,.i dy]] (.b (segx ax ay bx byy cx cy dx dy)):=⟨c_segx ax ay bx byy cx cy dx dy⟩
theorem c_rsegx (ax ay bx byy cx cy dx dy : Int) : PCall Tryz.prog 314 [.agg [.i ax,.i ay],.agg [.i bx,.i byy],.agg [.i cx,.i cy],.agg [.i dx,.i dy]] (.b (segx ax ay bx byy cx cy dx dy)):=by
 refine pcall_of hm Tryz.func314 rfl (by kernel_rfl) (by rw [Tryz.ntmps314]; exact Nat.le_of_ble_eq_true rfl) (lt_cons (lt_agg (lt_cons (lt_i _ _) (lt_cons (lt_i _ _) lt_nil))) (lt_cons (lt_agg (lt_cons (lt_i _ _) (lt_cons (lt_i _ _) lt_nil))) (lt_cons (lt_agg (lt_cons (lt_i _ _) (lt_cons (lt_i _ _) lt_nil))) (lt_cons (lt_agg (lt_cons (lt_i _ _) (lt_cons (lt_i _ _) lt_nil))) lt_nil)))) (lt_b _ _) ?_
 rw [Tryz.ntmps314,Tryz.results314]
 repeat' (first|simp only [go_sem,↓reduceIte,Nat.reduceLT,Nat.reduceEqDiff,Nat.reduceAdd,Nat.reduceLeDiff,Nat.reduceMul,reduceCtorEq,imp_self,List.range_zero,List.range_succ,List.replicate_succ,List.replicate_zero,List.flatten_cons,List.flatten_nil,List.all_cons,List.all_nil]|refine cst_go ?_|refine gcst_go ?_|(refine regOk_go ?_; kernel_rfl)|refine And.intro ?_ ?_)
 all_goals first|rfl|(refine leaf_b ?_; unfold segx seg2; rw [Bool.eq_iff_iff]; simp; try omega)
instance (ax ay bx byy cx cy dx dy : Int) : HasC Tryz.prog 314 [.agg [.i ax,.i ay],.agg [.i bx,.i byy],.agg [.i cx,.i cy],.agg [.i dx,.i dy]] (.b (segx ax ay bx byy cx cy dx dy)):=⟨c_rsegx ax ay bx byy cx cy dx dy⟩
theorem c_ldist (cx cy dx dy px py : Int) : PCall Tryz.prog 297 [.agg [.i cx,.i cy],.agg [.i dx,.i dy],.agg [.i px,.i py]] (.i (ldist cx cy dx dy px py)):=by
 refine pcall_of hm Tryz.func297 rfl (by kernel_rfl) (by rw [Tryz.ntmps297]; exact Nat.le_of_ble_eq_true rfl) (lt_cons (lt_agg (lt_cons (lt_i _ _) (lt_cons (lt_i _ _) lt_nil))) (lt_cons (lt_agg (lt_cons (lt_i _ _) (lt_cons (lt_i _ _) lt_nil))) (lt_cons (lt_agg (lt_cons (lt_i _ _) (lt_cons (lt_i _ _) lt_nil))) lt_nil))) (lt_i _ _) ?_
 rw [Tryz.ntmps297,Tryz.results297]
 repeat' (first|simp only [go_sem,↓reduceIte,Nat.reduceLT,Nat.reduceEqDiff,Nat.reduceAdd,Nat.reduceLeDiff,reduceCtorEq,imp_self])
 all_goals rfl
instance (cx cy dx dy px py : Int) : HasC Tryz.prog 297 [.agg [.i cx,.i cy],.agg [.i dx,.i dy],.agg [.i px,.i py]] (.i (ldist cx cy dx dy px py)):=⟨c_ldist cx cy dx dy px py⟩
theorem c_rldist (cx cy dx dy px py : Int) : PCall Tryz.prog 315 [.agg [.i cx,.i cy],.agg [.i dx,.i dy],.agg [.i px,.i py]] (.i (ldist cx cy dx dy px py)):=by
 refine pcall_of hm Tryz.func315 rfl (by kernel_rfl) (by rw [Tryz.ntmps315]; exact Nat.le_of_ble_eq_true rfl) (lt_cons (lt_agg (lt_cons (lt_i _ _) (lt_cons (lt_i _ _) lt_nil))) (lt_cons (lt_agg (lt_cons (lt_i _ _) (lt_cons (lt_i _ _) lt_nil))) (lt_cons (lt_agg (lt_cons (lt_i _ _) (lt_cons (lt_i _ _) lt_nil))) lt_nil))) (lt_i _ _) ?_
 rw [Tryz.ntmps315,Tryz.results315]
 repeat' (first|simp only [go_sem,↓reduceIte,Nat.reduceLT,Nat.reduceEqDiff,Nat.reduceAdd,Nat.reduceLeDiff,reduceCtorEq,imp_self]|refine acond_split (fun _=>?_) (fun _=>?_))
 all_goals (try simp only [decide_eq_true_eq,decide_eq_false_iff_not] at *)
 all_goals (rw [← ldist_ref]; unfold ldk; simp only [*,if_true,if_false])
instance (cx cy dx dy px py : Int) : HasC Tryz.prog 315 [.agg [.i cx,.i cy],.agg [.i dx,.i dy],.agg [.i px,.i py]] (.i (ldist cx cy dx dy px py)):=⟨c_rldist cx cy dx dy px py⟩
theorem c_cp (ax ay bx byy px py : Int) : PCall Tryz.prog 300 [.agg [.i ax,.i ay],.agg [.i bx,.i byy],.agg [.i px,.i py]] (.tup [.agg [.i (cpx ax ay bx byy px py),.i (cpy ax ay bx byy px py)],.i (cpt ax ay bx byy px py)]):=by
 refine pcall_of hm Tryz.func300 rfl (by kernel_rfl) (by rw [Tryz.ntmps300]; exact Nat.le_of_ble_eq_true rfl) (lt_cons (lt_agg (lt_cons (lt_i _ _) (lt_cons (lt_i _ _) lt_nil))) (lt_cons (lt_agg (lt_cons (lt_i _ _) (lt_cons (lt_i _ _) lt_nil))) (lt_cons (lt_agg (lt_cons (lt_i _ _) (lt_cons (lt_i _ _) lt_nil))) lt_nil))) (lt_tup (lt_cons (lt_agg (lt_cons (lt_i _ _) (lt_cons (lt_i _ _) lt_nil))) (lt_cons (lt_i _ _) lt_nil))) ?_
 rw [Tryz.ntmps300,Tryz.results300]
 repeat' (first|simp only [go_sem,↓reduceIte,Nat.reduceLT,Nat.reduceEqDiff,Nat.reduceAdd,Nat.reduceLeDiff,reduceCtorEq,imp_self]|refine cst_go ?_|(refine regOk_go ?_; kernel_rfl)|refine acond_split (fun _=>?_) (fun _=>?_)|refine And.intro ?_ ?_)
 all_goals (simp only [decide_eq_true_eq,decide_eq_false_iff_not] at *)
 all_goals (unfold cpx cpy cpt cpn)
 all_goals (simp only [*,↓reduceIte,Int.reduceEq])
instance (ax ay bx byy px py : Int) : HasC Tryz.prog 300 [.agg [.i ax,.i ay],.agg [.i bx,.i byy],.agg [.i px,.i py]] (.tup [.agg [.i (cpx ax ay bx byy px py),.i (cpy ax ay bx byy px py)],.i (cpt ax ay bx byy px py)]):=⟨c_cp ax ay bx byy px py⟩
theorem c_rcp (ax ay bx byy px py : Int) : PCall Tryz.prog 243 [.agg [.i ax,.i ay],.agg [.i bx,.i byy],.agg [.i px,.i py]] (.tup [.agg [.i (cpx ax ay bx byy px py),.i (cpy ax ay bx byy px py)],.i (cpt ax ay bx byy px py)]):=by
 refine pcall_of hm Tryz.func243 rfl (by kernel_rfl) (by rw [Tryz.ntmps243]; exact Nat.le_of_ble_eq_true rfl) (lt_cons (lt_agg (lt_cons (lt_i _ _) (lt_cons (lt_i _ _) lt_nil))) (lt_cons (lt_agg (lt_cons (lt_i _ _) (lt_cons (lt_i _ _) lt_nil))) (lt_cons (lt_agg (lt_cons (lt_i _ _) (lt_cons (lt_i _ _) lt_nil))) lt_nil))) (lt_tup (lt_cons (lt_agg (lt_cons (lt_i _ _) (lt_cons (lt_i _ _) lt_nil))) (lt_cons (lt_i _ _) lt_nil))) ?_
 rw [Tryz.ntmps243,Tryz.results243]
 repeat' (first|simp only [go_sem,↓reduceIte,Nat.reduceLT,Nat.reduceEqDiff,Nat.reduceAdd,Nat.reduceLeDiff,reduceCtorEq,imp_self]|refine cst_go ?_|(refine regOk_go ?_; kernel_rfl)|refine acond_split (fun _=>?_) (fun _=>?_)|refine And.intro ?_ ?_)
 all_goals (simp only [decide_eq_true_eq,decide_eq_false_iff_not] at *)
 all_goals (unfold cpx cpy cpt cpn)
 all_goals (simp only [*,↓reduceIte,Int.reduceEq])
instance (ax ay bx byy px py : Int) : HasC Tryz.prog 243 [.agg [.i ax,.i ay],.agg [.i bx,.i byy],.agg [.i px,.i py]] (.tup [.agg [.i (cpx ax ay bx byy px py),.i (cpy ax ay bx byy px py)],.i (cpt ax ay bx byy px py)]):=⟨c_rcp ax ay bx byy px py⟩
theorem c_cps (ax ay bx byy cx cy dx dy : Int) : PCall Tryz.prog 219 [.agg [.i ax,.i ay],.agg [.i bx,.i byy],.agg [.i cx,.i cy],.agg [.i dx,.i dy]] (.tup [.agg [.i (cps ax ay bx byy cx cy dx dy).a,.i (cps ax ay bx byy cx cy dx dy).b],.agg [.i (cps ax ay bx byy cx cy dx dy).c,.i (cps ax ay bx byy cx cy dx dy).d]]):=by
 refine pcall_of hm Tryz.func219 rfl (by kernel_rfl) (by rw [Tryz.ntmps219]; exact Nat.le_of_ble_eq_true rfl) (lt_cons (lt_agg (lt_cons (lt_i _ _) (lt_cons (lt_i _ _) lt_nil))) (lt_cons (lt_agg (lt_cons (lt_i _ _) (lt_cons (lt_i _ _) lt_nil))) (lt_cons (lt_agg (lt_cons (lt_i _ _) (lt_cons (lt_i _ _) lt_nil))) (lt_cons (lt_agg (lt_cons (lt_i _ _) (lt_cons (lt_i _ _) lt_nil))) lt_nil)))) (lt_tup (lt_cons (lt_agg (lt_cons (lt_i _ _) (lt_cons (lt_i _ _) lt_nil))) (lt_cons (lt_agg (lt_cons (lt_i _ _) (lt_cons (lt_i _ _) lt_nil))) lt_nil))) ?_
 rw [Tryz.ntmps219,Tryz.results219]
 repeat' (first|simp only [go_sem,↓reduceIte,Nat.reduceLT,Nat.reduceEqDiff,Nat.reduceAdd,Nat.reduceLeDiff,Nat.reduceMul,reduceCtorEq,imp_self,List.range_zero,List.range_succ,List.replicate_succ,List.replicate_zero,List.flatten_cons,List.flatten_nil,List.all_cons,List.all_nil]|refine cst_go ?_|(refine regOk_go ?_; kernel_rfl)|refine acond_split (fun _=>?_) (fun _=>?_)|refine And.intro ?_ ?_)
 ·rename_i h
  unfold cps
  rw [if_pos h]
  rfl
 ·rename_i h
  have hq : cps ax ay bx byy cx cy dx dy = cbs ax ay bx byy cx cy dx dy 3:=by unfold cps; rw [if_neg (by rw [h]; decide)]
  rw [hq]
  have k0 : ((0 : Nat) : Int) = 0:=rfl
  have k1 : ((1 : Nat) : Int) = 1:=rfl
  have k2 : ((2 : Nat) : Int) = 2:=rfl
  have k3 : ((3 : Nat) : Int) = 3:=rfl
  refine tr_loop hm (ST:=fun x : Fs 3=>[(97,.i x.i),(96,.i 3),(95,.sl [(cb1 bx byy cx cy dx dy).v,(cb2 ax ay bx byy cx cy).v,(cb3 ax ay bx byy dx dy).v]),(21,.pt 10 0),(8,.pt 4 0),(9,.pt 5 0)]) (SH:=fun x=>[(4,.var (.agg [.i 0,.i 0])),(5,.var (.agg [.i 0,.i 0])),(10,.var ((cbs ax ay bx byy cx cy dx dy x.i).v))]) 12 (fun x=>3 - x.i) (Fs.start _) ?_ ?_
  ·refine wk_go (by decide) (tw_cons ?_ (lt_i _ _) (tw_cons ?_ (lt_i _ _) (tw_cons ?_ (.sl _ (lt_cons (lt_q4 _ _) (lt_cons (lt_q4 _ _) (lt_cons (lt_q4 _ _) lt_nil)))) (tw_cons ?_ (.pt _ _ (by decide)) (tw_cons ?_ (.pt _ _ (by decide)) (tw_cons ?_ (.pt _ _ (by decide)) tw_nil)))))) (hw_cons (by decide) rfl bwk_rfl (lt_agg (lt_cons (lt_i _ _) (lt_cons (lt_i _ _) lt_nil))) (hw_cons (by decide) rfl bwk_rfl (lt_agg (lt_cons (lt_i _ _) (lt_cons (lt_i _ _) lt_nil))) (hw_cons (x:=.var (cbs ax ay bx byy cx cy dx dy 0).v) (y:=.var (cbs ax ay bx byy cx cy dx dy 0).v) (by decide) ?_ bwk_rfl (lt_q4 _ _) hw_nil)))
   all_goals rfl
  ·rintro ⟨i,hi⟩
   match i,hi with
   | 0,hi=>
    repeat' (first|simp only [go_sem,↓reduceIte,Nat.reduceLT,Nat.reduceEqDiff,Nat.reduceAdd,Nat.reduceLeDiff,Nat.reduceSub,reduceCtorEq,imp_self,Int.reduceLT,Int.reduceLE,Int.reduceAdd,decide_true,acond_tt,Int.reduceToNat,Q4.v,k0,k3]|refine cst_go ?_|(refine regOk_go ?_; kernel_rfl)|refine acond_split (fun _=>?_) (fun _=>?_)|refine And.intro ?_ ?_)
    ·rename_i hc
     have hp : cbs ax ay bx byy cx cy dx dy 1 = cb1 bx byy cx cy dx dy:=if_pos (of_decide_eq_true hc)
     refine ⟨Fs.next (i:=0) (by decide),by decide,wk_go (by decide) (tw_cons rfl (lt_i _ _) (tw_cons rfl (lt_i _ _) (tw_cons rfl (.sl _ (lt_cons (lt_q4 _ _) (lt_cons (lt_q4 _ _) (lt_cons (lt_q4 _ _) lt_nil)))) (tw_cons rfl (.pt _ _ (by decide)) (tw_cons rfl (.pt _ _ (by decide)) (tw_cons rfl (.pt _ _ (by decide)) tw_nil)))))) (hw_cons (by decide) rfl bwk_rfl (lt_agg (lt_cons (lt_i _ _) (lt_cons (lt_i _ _) lt_nil))) (hw_cons (by decide) rfl bwk_rfl (lt_agg (lt_cons (lt_i _ _) (lt_cons (lt_i _ _) lt_nil))) (hw_cons (x:=.var (cbs ax ay bx byy cx cy dx dy 1).v) (y:=.var (cbs ax ay bx byy cx cy dx dy 1).v) (by decide) ?_ bwk_rfl (lt_q4 _ _) hw_nil)))⟩
     rw [hp]; rfl
    ·rename_i hc
     have hp : cbs ax ay bx byy cx cy dx dy 1 = cbs ax ay bx byy cx cy dx dy 0:=if_neg (of_decide_eq_false hc)
     refine ⟨Fs.next (i:=0) (by decide),by decide,wk_go (by decide) (tw_cons rfl (lt_i _ _) (tw_cons rfl (lt_i _ _) (tw_cons rfl (.sl _ (lt_cons (lt_q4 _ _) (lt_cons (lt_q4 _ _) (lt_cons (lt_q4 _ _) lt_nil)))) (tw_cons rfl (.pt _ _ (by decide)) (tw_cons rfl (.pt _ _ (by decide)) (tw_cons rfl (.pt _ _ (by decide)) tw_nil)))))) (hw_cons (by decide) rfl bwk_rfl (lt_agg (lt_cons (lt_i _ _) (lt_cons (lt_i _ _) lt_nil))) (hw_cons (by decide) rfl bwk_rfl (lt_agg (lt_cons (lt_i _ _) (lt_cons (lt_i _ _) lt_nil))) (hw_cons (x:=.var (cbs ax ay bx byy cx cy dx dy 1).v) (y:=.var (cbs ax ay bx byy cx cy dx dy 1).v) (by decide) ?_ bwk_rfl (lt_q4 _ _) hw_nil)))⟩
     rw [hp]; rfl
   | 1,hi=>
    repeat' (first|simp only [go_sem,↓reduceIte,Nat.reduceLT,Nat.reduceEqDiff,Nat.reduceAdd,Nat.reduceLeDiff,Nat.reduceSub,reduceCtorEq,imp_self,Int.reduceLT,Int.reduceLE,Int.reduceAdd,decide_true,acond_tt,Int.reduceToNat,Q4.v,k1,k3]|refine cst_go ?_|(refine regOk_go ?_; kernel_rfl)|refine acond_split (fun _=>?_) (fun _=>?_)|refine And.intro ?_ ?_)
    ·rename_i hc
     have hp : cbs ax ay bx byy cx cy dx dy 2 = cb2 ax ay bx byy cx cy:=if_pos (of_decide_eq_true hc)
     refine ⟨Fs.next (i:=1) (by decide),by decide,wk_go (by decide) (tw_cons rfl (lt_i _ _) (tw_cons rfl (lt_i _ _) (tw_cons rfl (.sl _ (lt_cons (lt_q4 _ _) (lt_cons (lt_q4 _ _) (lt_cons (lt_q4 _ _) lt_nil)))) (tw_cons rfl (.pt _ _ (by decide)) (tw_cons rfl (.pt _ _ (by decide)) (tw_cons rfl (.pt _ _ (by decide)) tw_nil)))))) (hw_cons (by decide) rfl bwk_rfl (lt_agg (lt_cons (lt_i _ _) (lt_cons (lt_i _ _) lt_nil))) (hw_cons (by decide) rfl bwk_rfl (lt_agg (lt_cons (lt_i _ _) (lt_cons (lt_i _ _) lt_nil))) (hw_cons (x:=.var (cbs ax ay bx byy cx cy dx dy 2).v) (y:=.var (cbs ax ay bx byy cx cy dx dy 2).v) (by decide) ?_ bwk_rfl (lt_q4 _ _) hw_nil)))⟩
     rw [hp]; rfl
    ·rename_i hc
     have hp : cbs ax ay bx byy cx cy dx dy 2 = cbs ax ay bx byy cx cy dx dy 1:=if_neg (of_decide_eq_false hc)
     refine ⟨Fs.next (i:=1) (by decide),by decide,wk_go (by decide) (tw_cons rfl (lt_i _ _) (tw_cons rfl (lt_i _ _) (tw_cons rfl (.sl _ (lt_cons (lt_q4 _ _) (lt_cons (lt_q4 _ _) (lt_cons (lt_q4 _ _) lt_nil)))) (tw_cons rfl (.pt _ _ (by decide)) (tw_cons rfl (.pt _ _ (by decide)) (tw_cons rfl (.pt _ _ (by decide)) tw_nil)))))) (hw_cons (by decide) rfl bwk_rfl (lt_agg (lt_cons (lt_i _ _) (lt_cons (lt_i _ _) lt_nil))) (hw_cons (by decide) rfl bwk_rfl (lt_agg (lt_cons (lt_i _ _) (lt_cons (lt_i _ _) lt_nil))) (hw_cons (x:=.var (cbs ax ay bx byy cx cy dx dy 2).v) (y:=.var (cbs ax ay bx byy cx cy dx dy 2).v) (by decide) ?_ bwk_rfl (lt_q4 _ _) hw_nil)))⟩
     rw [hp]; rfl
   | 2,hi=>
    repeat' (first|simp only [go_sem,↓reduceIte,Nat.reduceLT,Nat.reduceEqDiff,Nat.reduceAdd,Nat.reduceLeDiff,Nat.reduceSub,reduceCtorEq,imp_self,Int.reduceLT,Int.reduceLE,Int.reduceAdd,decide_true,acond_tt,Int.reduceToNat,Q4.v,k2,k3]|refine cst_go ?_|(refine regOk_go ?_; kernel_rfl)|refine acond_split (fun _=>?_) (fun _=>?_)|refine And.intro ?_ ?_)
    ·rename_i hc
     have hp : cbs ax ay bx byy cx cy dx dy 3 = cb3 ax ay bx byy dx dy:=if_pos (of_decide_eq_true hc)
     refine ⟨Fs.next (i:=2) (by decide),by decide,wk_go (by decide) (tw_cons rfl (lt_i _ _) (tw_cons rfl (lt_i _ _) (tw_cons rfl (.sl _ (lt_cons (lt_q4 _ _) (lt_cons (lt_q4 _ _) (lt_cons (lt_q4 _ _) lt_nil)))) (tw_cons rfl (.pt _ _ (by decide)) (tw_cons rfl (.pt _ _ (by decide)) (tw_cons rfl (.pt _ _ (by decide)) tw_nil)))))) (hw_cons (by decide) rfl bwk_rfl (lt_agg (lt_cons (lt_i _ _) (lt_cons (lt_i _ _) lt_nil))) (hw_cons (by decide) rfl bwk_rfl (lt_agg (lt_cons (lt_i _ _) (lt_cons (lt_i _ _) lt_nil))) (hw_cons (x:=.var (cbs ax ay bx byy cx cy dx dy 3).v) (y:=.var (cbs ax ay bx byy cx cy dx dy 3).v) (by decide) ?_ bwk_rfl (lt_q4 _ _) hw_nil)))⟩
     rw [hp]; rfl
    ·rename_i hc
     have hp : cbs ax ay bx byy cx cy dx dy 3 = cbs ax ay bx byy cx cy dx dy 2:=if_neg (of_decide_eq_false hc)
     refine ⟨Fs.next (i:=2) (by decide),by decide,wk_go (by decide) (tw_cons rfl (lt_i _ _) (tw_cons rfl (lt_i _ _) (tw_cons rfl (.sl _ (lt_cons (lt_q4 _ _) (lt_cons (lt_q4 _ _) (lt_cons (lt_q4 _ _) lt_nil)))) (tw_cons rfl (.pt _ _ (by decide)) (tw_cons rfl (.pt _ _ (by decide)) (tw_cons rfl (.pt _ _ (by decide)) tw_nil)))))) (hw_cons (by decide) rfl bwk_rfl (lt_agg (lt_cons (lt_i _ _) (lt_cons (lt_i _ _) lt_nil))) (hw_cons (by decide) rfl bwk_rfl (lt_agg (lt_cons (lt_i _ _) (lt_cons (lt_i _ _) lt_nil))) (hw_cons (x:=.var (cbs ax ay bx byy cx cy dx dy 3).v) (y:=.var (cbs ax ay bx byy cx cy dx dy 3).v) (by decide) ?_ bwk_rfl (lt_q4 _ _) hw_nil)))⟩
     rw [hp]; rfl
   | 3,hi=>
    repeat' (first|simp only [go_sem,↓reduceIte,Nat.reduceLT,Nat.reduceEqDiff,Nat.reduceAdd,Nat.reduceLeDiff,Nat.reduceSub,reduceCtorEq,imp_self,Int.reduceLT,decide_false,acond_ff,Q4.v,k3]|(refine regOk_go ?_; kernel_rfl))
    all_goals rfl
instance (ax ay bx byy cx cy dx dy : Int) : HasC Tryz.prog 219 [.agg [.i ax,.i ay],.agg [.i bx,.i byy],.agg [.i cx,.i cy],.agg [.i dx,.i dy]] (.tup [.agg [.i (cps ax ay bx byy cx cy dx dy).a,.i (cps ax ay bx byy cx cy dx dy).b],.agg [.i (cps ax ay bx byy cx cy dx dy).c,.i (cps ax ay bx byy cx cy dx dy).d]]):=⟨c_cps ax ay bx byy cx cy dx dy⟩
section
variable {ax ay bx byy cx cy dx dy : Int} {q : Q4}
theorem cbs1_t (h : (cb1 bx byy cx cy dx dy).dist < (cb0 ax ay cx cy dx dy).dist) : cbs ax ay bx byy cx cy dx dy 1 = cb1 bx byy cx cy dx dy:=if_pos h
theorem cbs1_f (h : ¬ (cb1 bx byy cx cy dx dy).dist < (cb0 ax ay cx cy dx dy).dist) : cbs ax ay bx byy cx cy dx dy 1 = cb0 ax ay cx cy dx dy:=if_neg h
theorem cbs2_t (e : cbs ax ay bx byy cx cy dx dy 1 = q) (h : (cb2 ax ay bx byy cx cy).dist < q.dist) : cbs ax ay bx byy cx cy dx dy 2 = cb2 ax ay bx byy cx cy:=by subst e; exact if_pos h
theorem cbs2_f (e : cbs ax ay bx byy cx cy dx dy 1 = q) (h : ¬ (cb2 ax ay bx byy cx cy).dist < q.dist) : cbs ax ay bx byy cx cy dx dy 2 = q:=by subst e; exact if_neg h
theorem cbs3_t (e : cbs ax ay bx byy cx cy dx dy 2 = q) (h : (cb3 ax ay bx byy dx dy).dist < q.dist) : cbs ax ay bx byy cx cy dx dy 3 = cb3 ax ay bx byy dx dy:=by subst e; exact if_pos h
theorem cbs3_f (e : cbs ax ay bx byy cx cy dx dy 2 = q) (h : ¬ (cb3 ax ay bx byy dx dy).dist < q.dist) : cbs ax ay bx byy cx cy dx dy 3 = q:=by subst e; exact if_neg h
theorem cps_fin (h : segx (sat ax) (sat ay) (sat bx) (sat byy) (sat cx) (sat cy) (sat dx) (sat dy) = false) (e : cbs ax ay bx byy cx cy dx dy 3 = q) : AV.tup [.agg [.i q.a,.i q.b],.agg [.i q.c,.i q.d]] = .tup [.agg [.i (cps ax ay bx byy cx cy dx dy).a,.i (cps ax ay bx byy cx cy dx dy).b],.agg [.i (cps ax ay bx byy cx cy dx dy).c,.i (cps ax ay bx byy cx cy dx dy).d]]:=by
 have hq : cps ax ay bx byy cx cy dx dy = q:=by unfold cps; rw [if_neg (by rw [h]; decide),e]
 rw [hq]
end
theorem c_rcps (ax ay bx byy cx cy dx dy : Int) : PCall Tryz.prog 236 [.agg [.i ax,.i ay],.agg [.i bx,.i byy],.agg [.i cx,.i cy],.agg [.i dx,.i dy]] (.tup [.agg [.i (cps ax ay bx byy cx cy dx dy).a,.i (cps ax ay bx byy cx cy dx dy).b],.agg [.i (cps ax ay bx byy cx cy dx dy).c,.i (cps ax ay bx byy cx cy dx dy).d]]):=by
 refine pcall_of hm Tryz.func236 rfl (by kernel_rfl) (by rw [Tryz.ntmps236]; exact Nat.le_of_ble_eq_true rfl) (lt_cons (lt_agg (lt_cons (lt_i _ _) (lt_cons (lt_i _ _) lt_nil))) (lt_cons (lt_agg (lt_cons (lt_i _ _) (lt_cons (lt_i _ _) lt_nil))) (lt_cons (lt_agg (lt_cons (lt_i _ _) (lt_cons (lt_i _ _) lt_nil))) (lt_cons (lt_agg (lt_cons (lt_i _ _) (lt_cons (lt_i _ _) lt_nil))) lt_nil)))) (lt_tup (lt_cons (lt_agg (lt_cons (lt_i _ _) (lt_cons (lt_i _ _) lt_nil))) (lt_cons (lt_agg (lt_cons (lt_i _ _) (lt_cons (lt_i _ _) lt_nil))) lt_nil))) ?_
 rw [Tryz.ntmps236,Tryz.results236]
 repeat' (first|simp only [go_sem,↓reduceIte,Nat.reduceLT,Nat.reduceEqDiff,Nat.reduceAdd,Nat.reduceLeDiff,reduceCtorEq,imp_self,true_and,and_true]|refine cst_go ?_|(refine regOk_go ?_; kernel_rfl)|refine acond_split (fun _=>?_) (fun _=>?_)|refine And.intro ?_ ?_)
 ·rename_i h
  unfold cps
  rw [if_pos h]
  rfl
 all_goals (rename_i h0 h1 h2 h3)
 all_goals first|exact cps_fin h0 (cbs3_t (cbs2_t (cbs1_t (of_decide_eq_true h1)) (of_decide_eq_true h2)) (of_decide_eq_true h3))|exact cps_fin h0 (cbs3_f (cbs2_t (cbs1_t (of_decide_eq_true h1)) (of_decide_eq_true h2)) (of_decide_eq_false h3))|exact cps_fin h0 (cbs3_t (cbs2_f (cbs1_t (of_decide_eq_true h1)) (of_decide_eq_false h2)) (of_decide_eq_true h3))|exact cps_fin h0 (cbs3_f (cbs2_f (cbs1_t (of_decide_eq_true h1)) (of_decide_eq_false h2)) (of_decide_eq_false h3))|exact cps_fin h0 (cbs3_t (cbs2_t (cbs1_f (of_decide_eq_false h1)) (of_decide_eq_true h2)) (of_decide_eq_true h3))|exact cps_fin h0 (cbs3_f (cbs2_t (cbs1_f (of_decide_eq_false h1)) (of_decide_eq_true h2)) (of_decide_eq_false h3))|exact cps_fin h0 (cbs3_t (cbs2_f (cbs1_f (of_decide_eq_false h1)) (of_decide_eq_false h2)) (of_decide_eq_true h3))|exact cps_fin h0 (cbs3_f (cbs2_f (cbs1_f (of_decide_eq_false h1)) (of_decide_eq_false h2)) (of_decide_eq_false h3))
instance (ax ay bx byy cx cy dx dy : Int) : HasC Tryz.prog 236 [.agg [.i ax,.i ay],.agg [.i bx,.i byy],.agg [.i cx,.i cy],.agg [.i dx,.i dy]] (.tup [.agg [.i (cps ax ay bx byy cx cy dx dy).a,.i (cps ax ay bx byy cx cy dx dy).b],.agg [.i (cps ax ay bx byy cx cy dx dy).c,.i (cps ax ay bx byy cx cy dx dy).d]]):=⟨c_rcps ax ay bx byy cx cy dx dy⟩
end Go.Proofs.YtplmagdbnbijlaaGreat
