/- What is proved: contracts of the program's and the reference's functions in the evaluator, and plain laws on them. Conditions: as each states. -/
import Derived.Test.YtijnmoojncedlaaGreatDoorMQ2
set_option linter.unusedSimpArgs false
set_option linter.unusedSectionVars false
set_option linter.unusedVariables false
set_option maxRecDepth 100000
namespace Go.Ab
open Go Go.Proofs
theorem Zmp (x:List Tbl) (ds:List Dat) (h:Led x ds) (hm:x.length=1) (t0:Tbl) (D0:Dat) (E0:List (AV×AV)) (ht0:x[0]? = some t0) (hd0:ds[0]? = some D0) (s0:SetM E0 (D0.rows.map (ZD t0 t0.key))) (i:Nat) (t:Tbl) (d:Dat) (hi:x[i]? = some t) (hd:ds[i]? = some d) (f:Fgn) (mf:f∈t.fgn) (jf:Int) (ks:List It) :
  ∀ (q j:Nat) (jj:Int) (Bo:Code),Zf Tryz.f52 8 Bo→jj=(j:Int)→d.rows.length=j+q →
  RL K (.run 52 0 (.code Bo::.lp Bo (some ([2,3,5,12,13,15,64,65,66,72,73,74,83,84,85],[])) 7::.blk 8 7::ks) [(2,.ptr 0 0),(3,.ptr 1 0),(5,.own 2 1),(12,I (i:Int)),(13,.ptr 5 0),(15,.ptr 6 0),(64,.rows (x.map Za)),(65,I 1),(66,I (i:Int)),(72,.rows (t.fgn.map Zt)),(73,I (t.fgn.length:Int)),(74,I jf),(83,.rows (d.rows.map Zn)),(84,I (d.rows.length:Int)),(85,I jj)] [.cells [.rows (x.map Za)],.cells [.rows (ds.map Zh)],.rows 1 [[.mp 4]] true,.cells (Za t0),.map E0,.cells (Za t),.cells (Zt f)]) =
  if XA (Z1 true t f.cols) (ZF x ds f.tb) (d.rows.drop j)=0 then R K (.run 52 0 ks [(2,.ptr 0 0),(3,.ptr 1 0),(5,.own 2 1),(12,I (i:Int)),(13,.ptr 5 0),(64,.rows (x.map Za)),(65,I 1),(66,I (i:Int)),(72,.rows (t.fgn.map Zt)),(73,I (t.fgn.length:Int)),(74,I jf)] [.cells [.rows (x.map Za)],.cells [.rows (ds.map Zh)],.rows 1 [[.mp 4]] true,.cells (Za t0),.map E0,.cells (Za t),.cells (Zt f)]) else some (I (XA (Z1 true t f.cols) (ZF x ds f.tb) (d.rows.drop j)),[])
 | 0,j,jj,Bo,hB,hj,hq=>by
  have d1:¬(j:Int) < (d.rows.length:Int):=by omega
  subst hj
  rw [List.drop_of_length_le (by omega),if_pos (show XA (Z1 true t f.cols) (ZF x ds f.tb) []=0 from rfl)]
  unfold Zf at hB
  simp -implicitDefEqProofs only [go_sem,simprocAttr,Tryz.f52,Zb] at hB
  subst hB
  rw [Zc]
  simp -implicitDefEqProofs only [go_sem,simprocAttr,d1,Za,Zt]
 | q+1,j,jj,Bo,hB,hj,hq=>by
  have hB':=hB
  have mt:=List.mem_of_getElem? hi
  have ft:=h.fit.tbl t mt
  have fd:=h.few.rows d (List.mem_of_getElem? hd)
  have hfit:=h.ok.fit i t d hi hd
  have d1:(j:Int) < (d.rows.length:Int):=by omega
  have h7:=Zs (i:=j) (n:=d.rows.length) (by omega) (by omega)
  obtain ⟨r,hr⟩:=Ze (l:=d.rows) (i:=j) (by omega)
  have gr:=Yj hr
  have hcf:=(ft.fg f mf).2
  have xp:=Yy t ft.cols r (hfit r (List.mem_of_getElem? hr)) f.cols ((h.right.ok t mt).fg f mf) hcf
  have xk:=Y6 (ZQ t f.cols r) (by rw [Z5];exact hcf)
  have ekk:YM (ZQ t f.cols r)=ZD t f.cols r:=rfl
  rw [ekk] at xk
  obtain ⟨w,u,g,hw,hu,hg⟩:=h.to mt mf
  have xt:=Yu x f.tb h.fit.len
  rw [hw] at xt
  have hwl:=(List.getElem?_eq_some_iff.1 hu).1
  rw [hm] at hwl
  have e0:=Zbq (Z1 true t f.cols) (ZF x ds f.tb) r (d.rows.drop (j+1))
  rw [show r::d.rows.drop (j+1)=d.rows.drop j from (ZE hr).symm] at e0
  have ih:=Zmp x ds h hm t0 D0 E0 ht0 hd0 s0 i t d hi hd f mf jf ks q (j+1) _ Bo hB' rfl (by omega)
  subst hj
  simp only [Zn] at gr
  simp only [ZX,Za] at xp
  cases hv:Ww (ZQ t f.cols r) with
  | true =>
   have ek:Z1 true t f.cols r=none:=by simp [Z1,hv]
   rw [ek] at e0
   simp only at e0
   rw [hv] at xp
   simp only [e0]
   simp only [Za,Zt] at ih ⊢
   unfold Zf at hB
   simp -implicitDefEqProofs only [go_sem,simprocAttr,Tryz.f52,Zb] at hB
   subst hB
   rw [Zc]
   simp -implicitDefEqProofs only [go_sem,simprocAttr,d1,h7,gr,xp,xk,xt,Bool.not_true,Za,Zt,Zn]
   exact ih
  | false =>
   have ek:Z1 true t f.cols r=some (ZD t f.cols r):=by simp [Z1,hv]
   rw [ek] at e0
   simp only at e0
   rw [hv] at xp
   have hw0:w=0:=by omega
   ·subst hw0
    have ek:ZF x ds f.tb=D0.rows.map (ZD t0 t0.key):=by
     simp only [ZF,hw,Int.toNat_natCast,ht0,hd0]
    obtain ⟨a1,a2⟩:=J3 s0 (ZD t f.cols r)
    rw [←ek] at a1 a2
    by_cases hmm:ZD t f.cols r∈ZF x ds f.tb
    ·obtain ⟨i0,hf⟩:=a1 hmm
     rw [if_pos hmm] at e0
     simp only [e0]
     simp only [Za,Zt] at ih ⊢
     unfold Zf at hB
     simp -implicitDefEqProofs only [go_sem,simprocAttr,Tryz.f52,Zb] at hB
     subst hB
     rw [Zc]
     simp -implicitDefEqProofs only [go_sem,simprocAttr,d1,h7,gr,xp,xk,xt,hf,Bool.not_false,Za,Zt,Zn]
     exact ih
    ·have hf:=a2 hmm
     rw [if_neg hmm] at e0
     simp only [e0,show ¬((11:Int)=0) by decide,if_false]
     simp only [Za,Zt]
     unfold Zf at hB
     simp -implicitDefEqProofs only [go_sem,simprocAttr,Tryz.f52,Zb] at hB
     subst hB
     rw [Zc]
     simp -implicitDefEqProofs only [go_sem,simprocAttr,d1,h7,gr,xp,xk,xt,hf,Bool.not_false,Za,Zt,Zn]
theorem Zm1 (x:List Tbl) (ds:List Dat) (h:Led x ds) (hm:x.length=1) (t0:Tbl) (D0:Dat) (E0:List (AV×AV)) (ht0:x[0]? = some t0) (hd0:ds[0]? = some D0) (s0:SetM E0 (D0.rows.map (ZD t0 t0.key))) (i:Nat) (t:Tbl) (d:Dat) (hi:x[i]? = some t) (hd:ds[i]? = some d) (ks:List It) :
  ∀ (q j:Nat) (jj:Int) (Bo:Code),Zf Tryz.f52 6 Bo→jj=(j:Int)→t.fgn.length=j+q →
  RL K (.run 52 0 (.code Bo::.lp Bo (some ([2,3,5,12,13,64,65,66,72,73,74],[])) 6::.blk 6 6::ks) [(2,.ptr 0 0),(3,.ptr 1 0),(5,.own 2 1),(12,I (i:Int)),(13,.ptr 5 0),(64,.rows (x.map Za)),(65,I 1),(66,I (i:Int)),(72,.rows (t.fgn.map Zt)),(73,I (t.fgn.length:Int)),(74,I jj)] [.cells [.rows (x.map Za)],.cells [.rows (ds.map Zh)],.rows 1 [[.mp 4]] true,.cells (Za t0),.map E0,.cells (Za t)]) =
  if YI x ds t d.rows (t.fgn.drop j)=0 then R K (.run 52 0 ks [(2,.ptr 0 0),(3,.ptr 1 0),(5,.own 2 1),(64,.rows (x.map Za)),(65,I 1),(66,I (i:Int))] [.cells [.rows (x.map Za)],.cells [.rows (ds.map Zh)],.rows 1 [[.mp 4]] true,.cells (Za t0),.map E0,.cells (Za t)]) else some (I (YI x ds t d.rows (t.fgn.drop j)),[])
 | 0,j,jj,Bo,hB,hj,hq=>by
  have d1:¬(j:Int) < (t.fgn.length:Int):=by omega
  subst hj
  rw [List.drop_of_length_le (by omega),if_pos (show YI x ds t d.rows []=0 from rfl)]
  unfold Zf at hB
  simp -implicitDefEqProofs only [go_sem,simprocAttr,Tryz.f52,Zb] at hB
  subst hB
  rw [Zc]
  simp -implicitDefEqProofs only [go_sem,simprocAttr,d1,Za]
 | q+1,j,jj,Bo,hB,hj,hq=>by
  have hB':=hB
  have mt:=List.mem_of_getElem? hi
  have tfl:=(h.fit.tbl t mt).fgn
  have d1:(j:Int) < (t.fgn.length:Int):=by omega
  have h7:=Zs (i:=j) (n:=t.fgn.length) (by omega) (by omega)
  obtain ⟨f,hf⟩:=Ze (l:=t.fgn) (i:=j) (by omega)
  have gf:=Xz hf
  have gd:=YE hd
  have l8:=fun ks B hB=>Zmp x ds h hm t0 D0 E0 ht0 hd0 s0 i t d hi hd f (List.mem_of_getElem? hf) (j:Int) ks d.rows.length 0 0 B hB rfl (by omega)
  rw [List.drop_zero] at l8
  have ih:=Zm1 x ds h hm t0 D0 E0 ht0 hd0 s0 i t d hi hd ks q (j+1) _ Bo hB' rfl (by omega)
  have e0:YI x ds t d.rows (t.fgn.drop j)=if XA (Z1 true t f.cols) (ZF x ds f.tb) d.rows=0 then YI x ds t d.rows (t.fgn.drop (j+1)) else XA (Z1 true t f.cols) (ZF x ds f.tb) d.rows:=by
   rw [ZE hf]
   rfl
  subst hj
  simp only [Zt] at gf
  simp only [Zh] at gd
  by_cases h0:XA (Z1 true t f.cols) (ZF x ds f.tb) d.rows=0
  ·rw [if_pos h0] at e0
   simp only [h0,if_true] at l8
   simp only [e0]
   simp only [Za,Zt] at l8 ih ⊢
   unfold Zf at hB
   simp -implicitDefEqProofs only [go_sem,simprocAttr,Tryz.f52,Zb] at hB
   subst hB
   rw [Zc]
   simp -implicitDefEqProofs only [go_sem,simprocAttr,d1,h7,gf,gd,Za,Zt,Zh,List.length_map]
   rw [l8 _ _ (by rfl)]
   simp -implicitDefEqProofs only [go_sem,simprocAttr,h7,Za,Zt,List.length_map]
   exact ih
  ·rw [if_neg h0] at e0
   simp only [h0,if_false] at l8
   simp only [e0,h0,if_false]
   simp only [Za,Zt] at l8 ⊢
   unfold Zf at hB
   simp -implicitDefEqProofs only [go_sem,simprocAttr,Tryz.f52,Zb] at hB
   subst hB
   rw [Zc]
   simp -implicitDefEqProofs only [go_sem,simprocAttr,d1,h7,gf,gd,Za,Zt,Zh,List.length_map]
   rw [l8 _ _ (by rfl)]
theorem ZmJ (x:List Tbl) (ds:List Dat) (h:Led x ds) (hm:x.length=1) (t0:Tbl) (D0:Dat) (E0:List (AV×AV)) (ht0:x[0]? = some t0) (hd0:ds[0]? = some D0) (s0:SetM E0 (D0.rows.map (ZD t0 t0.key))) (ks:List It):∀ (q i:Nat) (ii:Int) (Bo:Code),Zf Tryz.f52 4 Bo→ii=(i:Int)→x.length=i+q →
  RL K (.run 52 0 (.code Bo::.lp Bo (some ([2,3,5,64,65,66],[])) 5::.blk 4 5::ks) [(2,.ptr 0 0),(3,.ptr 1 0),(5,.own 2 1),(64,.rows (x.map Za)),(65,I 1),(66,I ii)] [.cells [.rows (x.map Za)],.cells [.rows (ds.map Zh)],.rows 1 [[.mp 4]] true,.cells (Za t0),.map E0]) =
  if evE (Yl x ds) i q=0 then R K (.run 52 0 ks [] [.cells [.rows (x.map Za)],.cells [.rows (ds.map Zh)],.rows 1 [[.mp 4]] true,.cells (Za t0),.map E0]) else some (I (evE (Yl x ds) i q),[])
 | 0,i,ii,Bo,hB,hi,hq=>by
  have d1:¬(i:Int) < 1:=by omega
  subst hi
  rw [if_pos (show evE (Yl x ds) i 0=0 from rfl)]
  unfold Zf at hB
  simp -implicitDefEqProofs only [go_sem,simprocAttr,Tryz.f52,Zb] at hB
  subst hB
  rw [Zc]
  simp -implicitDefEqProofs only [go_sem,simprocAttr,d1,Za]
 | q+1,i,ii,Bo,hB,hi,hq=>by
  have hB':=hB
  have d1:(i:Int) < 1:=by omega
  have h7:=Zs (i:=i) (n:=x.length) (by omega) (by omega)
  have hdl:=h.ok.len
  obtain ⟨t,ht⟩:=Ze (l:=x) (i:=i) (by omega)
  obtain ⟨d,hd⟩:=Ze (l:=ds) (i:=i) (by omega)
  have gt:=ZG ht
  have l6:=fun ks B hB=>Zm1 x ds h hm t0 D0 E0 ht0 hd0 s0 i t d ht hd ks t.fgn.length 0 0 B hB rfl (by omega)
  rw [List.drop_zero] at l6
  have ih:=ZmJ x ds h hm t0 D0 E0 ht0 hd0 s0 ks q (i+1) _ Bo hB' rfl (by omega)
  have ea:Yl x ds i=YI x ds t d.rows t.fgn:=by simp only [Yl,ht,hd]
  subst hi
  simp only [evE,ea]
  by_cases h0:YI x ds t d.rows t.fgn=0
  ·simp only [h0,if_true] at l6 ⊢
   simp only [Za] at l6 gt ih ⊢
   unfold Zf at hB
   simp -implicitDefEqProofs only [go_sem,simprocAttr,Tryz.f52,Zb] at hB
   subst hB
   rw [Zc]
   simp -implicitDefEqProofs only [go_sem,simprocAttr,d1,h7,gt,Za,List.length_map]
   rw [l6 _ _ (by rfl)]
   simp -implicitDefEqProofs only [go_sem,simprocAttr,h7,Za,List.length_map]
   exact ih
  ·simp only [h0,if_false] at l6 ⊢
   simp only [Za] at l6 gt ⊢
   unfold Zf at hB
   simp -implicitDefEqProofs only [go_sem,simprocAttr,Tryz.f52,Zb] at hB
   subst hB
   rw [Zc]
   simp -implicitDefEqProofs only [go_sem,simprocAttr,d1,h7,gt,Za,List.length_map]
   rw [l6 _ _ (by rfl)]
theorem Zgl (x:List Tbl) (ds:List Dat) (h:Led x ds) (hm:x.length=1):R K (.call 52 [WI x,YF ds] [])=some (I (Wm x ds),[]):=by
 have hmi:((x.length:Nat):Int)=1:=by omega
 have hdl:=h.ok.len
 obtain ⟨t0,ht0⟩:=Ze (l:=x) (i:=0) (by omega)
 obtain ⟨D0,hd0⟩:=Ze (l:=ds) (i:=0) (by omega)
 have gt0:at? (x.map Za) 0=some (Za t0):=ZG ht0
 have gd0:at? (ds.map Zh) 0=some (Zh D0):=YE hd0
 have mt0:=List.mem_of_getElem? ht0
 obtain ⟨E0,s0,l0⟩:=ZiW x ds t0  (h.fit.tbl t0 mt0).cols (h.fit.tbl t0 mt0).key (h.right.ok t0 mt0).key D0.rows (h.ok.fit 0 t0 D0 ht0 hd0) (h.few.rows D0 (List.mem_of_getElem? hd0)).1 D0.rows.length 0 [] [] (by omega) SetM.nil
 rw [List.drop_zero,List.append_nil] at s0
 have l0:=fun ks B hB=>l0 ks 0 B hB rfl
 have l4:=fun ks B hB=>ZmJ x ds h hm t0 D0 E0 ht0 hd0 s0 ks x.length 0 0 B hB rfl (by omega)
 have er:evE (Yl x ds) 0 x.length=Wm x ds:=rfl
 rw [er] at l4
 simp only [Za] at l4 l0 gt0
 simp only [Zh] at gd0
 by_cases h0:Wm x ds=0
 ·simp only [h0,if_true] at l4 ⊢
  rw [Zbt]
  simp -implicitDefEqProofs only [go_sem,simprocAttr,Tryz.f52,We,hmi,gt0,gd0,Za,Zh,List.length_map]
  rw [Zc]
  simp -implicitDefEqProofs only [go_sem,simprocAttr,We,hmi,gt0,gd0,Za,Zh,List.length_map]
  rw [l0 _ _ (by rfl)]
  simp -implicitDefEqProofs only [go_sem,simprocAttr,We,hmi,gt0,gd0,Za,Zh,List.length_map]
  rw [Zc]
  simp -implicitDefEqProofs only [go_sem,simprocAttr,We,hmi,gt0,gd0,Za,Zh,List.length_map]
  rw [l4 _ _ (by rfl)]
  simp -implicitDefEqProofs only [go_sem,simprocAttr,Za]
 ·simp only [h0,if_false] at l4
  rw [Zbt]
  simp -implicitDefEqProofs only [go_sem,simprocAttr,Tryz.f52,We,hmi,gt0,gd0,Za,Zh,List.length_map]
  rw [Zc]
  simp -implicitDefEqProofs only [go_sem,simprocAttr,We,hmi,gt0,gd0,Za,Zh,List.length_map]
  rw [l0 _ _ (by rfl)]
  simp -implicitDefEqProofs only [go_sem,simprocAttr,We,hmi,gt0,gd0,Za,Zh,List.length_map]
  rw [Zc]
  simp -implicitDefEqProofs only [go_sem,simprocAttr,We,hmi,gt0,gd0,Za,Zh,List.length_map]
  rw [l4 _ _ (by rfl)]
theorem ZjK (x:List Tbl) (ds:List Dat) (t0:Tbl) (hc:t0.cols.length≤1000000) (hk:t0.key.length≤1000000) (hN:Zr t0 t0.key) (rs:List (List Val)) (hrs:ZK t0 rs) (hl:rs.length≤1000000) :
  ∀ (q j:Nat) (es:List (AV×AV)) (S:List (List UInt8)),rs.length=j+q→SetM es S→∃ es',SetM es' ((rs.drop j).map (ZD t0 t0.key)++S)∧∀ (ks:List It) (jj:Int) (Bo:Code),Zf Tryz.f52 2 Bo→jj=(j:Int) →
  RL K (.run 52 0 (.code Bo::.lp Bo (some ([2,3,5,6,7,25,26,27,41,42,43],[])) 5::.blk 2 5::ks) [(2,.ptr 0 0),(3,.ptr 1 0),(5,.own 2 2),(6,I 0),(7,.ptr 3 0),(25,.rows (x.map Za)),(26,I 2),(27,I 0),(41,.rows (rs.map Zn)),(42,I (rs.length:Int)),(43,I jj)] [.cells [.rows (x.map Za)],.cells [.rows (ds.map Zh)],.rows 1 [[.mp 4],[.nilm]] true,.cells (Za t0),.map es]) =
  R K (.run 52 0 ks [(2,.ptr 0 0),(3,.ptr 1 0),(5,.own 2 2),(25,.rows (x.map Za)),(26,I 2),(27,I 0)] [.cells [.rows (x.map Za)],.cells [.rows (ds.map Zh)],.rows 1 [[.mp 4],[.nilm]] true,.cells (Za t0),.map es'])
 | 0,j,es,S,hq,hS=>by
  have d:¬(j:Int) < (rs.length:Int):=by omega
  refine ⟨es,by rw [List.drop_of_length_le (by omega)];exact hS,fun ks jj Bo hB hj=>?_⟩
  subst hj
  unfold Zf at hB
  simp -implicitDefEqProofs only [go_sem,simprocAttr,Tryz.f52,Zb] at hB
  subst hB
  rw [Zc]
  simp -implicitDefEqProofs only [go_sem,simprocAttr,d,Za]
 | q+1,j,es,S,hq,hS=>by
  have d:(j:Int) < (rs.length:Int):=by omega
  have h7:=Zs (i:=j) (n:=rs.length) (by omega) (by omega)
  obtain ⟨r,hr⟩:=Ze (l:=rs) (i:=j) (by omega)
  have gr:=Yj hr
  have xp:=Yy t0 hc r (hrs r (List.mem_of_getElem? hr)) t0.key hN hk
  have xk:=Y6 (ZQ t0 t0.key r) (by rw [Z5];exact hk)
  have ekk:YM (ZQ t0 t0.key r)=ZD t0 t0.key r:=rfl
  rw [ekk] at xk
  obtain ⟨v,hf,_,_,hS'⟩:=YY hS (ZD t0 t0.key r)
  obtain ⟨es',h',ih⟩:=ZjK x ds t0  hc hk hN rs hrs hl q (j+1) _ _ (by omega) hS'
  refine ⟨es',h'.same fun s=>(by
   rw [ZE hr]
   simp only [List.map_cons,List.cons_append,List.mem_append,List.mem_cons]
   constructor
   ·rintro (h | h | h)
    ·exact .inr (.inl h)
    ·exact .inl h
    ·exact .inr (.inr h)
   ·rintro (h | h | h)
    ·exact .inr (.inl h)
    ·exact .inl h
    ·exact .inr (.inr h)),fun ks jj Bo hB hj=>?_⟩
  subst hj
  have ih:=ih ks _ Bo hB rfl
  simp only [Zn] at gr
  simp only [ZX,Za] at xp
  simp only [Za] at ih
  unfold Zf at hB
  simp -implicitDefEqProofs only [go_sem,simprocAttr,Tryz.f52,Zb] at hB
  subst hB
  rw [Zc]
  simp -implicitDefEqProofs only [go_sem,simprocAttr,d,h7,gr,xp,xk,hf,Za,Zn]
  exact ih
theorem ZjJ (x:List Tbl) (ds:List Dat) (t0 t1:Tbl) (E0:List (AV×AV)) (hc:t1.cols.length≤1000000) (hk:t1.key.length≤1000000) (hN:Zr t1 t1.key) (rs:List (List Val)) (hrs:ZK t1 rs) (hl:rs.length≤1000000) :
  ∀ (q j:Nat) (es:List (AV×AV)) (S:List (List UInt8)),rs.length=j+q→SetM es S→∃ es',SetM es' ((rs.drop j).map (ZD t1 t1.key)++S)∧∀ (ks:List It) (jj:Int) (Bo:Code),Zf Tryz.f52 2 Bo→jj=(j:Int) →
  RL K (.run 52 0 (.code Bo::.lp Bo (some ([2,3,5,6,7,25,26,27,41,42,43],[])) 7::.blk 2 7::ks) [(2,.ptr 0 0),(3,.ptr 1 0),(5,.own 2 2),(6,I 1),(7,.ptr 5 0),(25,.rows (x.map Za)),(26,I 2),(27,I 1),(41,.rows (rs.map Zn)),(42,I (rs.length:Int)),(43,I jj)] [.cells [.rows (x.map Za)],.cells [.rows (ds.map Zh)],.rows 1 [[.mp 4],[.mp 6]] true,.cells (Za t0),.map E0,.cells (Za t1),.map es]) =
  R K (.run 52 0 ks [(2,.ptr 0 0),(3,.ptr 1 0),(5,.own 2 2),(25,.rows (x.map Za)),(26,I 2),(27,I 1)] [.cells [.rows (x.map Za)],.cells [.rows (ds.map Zh)],.rows 1 [[.mp 4],[.mp 6]] true,.cells (Za t0),.map E0,.cells (Za t1),.map es'])
 | 0,j,es,S,hq,hS=>by
  have d:¬(j:Int) < (rs.length:Int):=by omega
  refine ⟨es,by rw [List.drop_of_length_le (by omega)];exact hS,fun ks jj Bo hB hj=>?_⟩
  subst hj
  unfold Zf at hB
  simp -implicitDefEqProofs only [go_sem,simprocAttr,Tryz.f52,Zb] at hB
  subst hB
  rw [Zc]
  simp -implicitDefEqProofs only [go_sem,simprocAttr,d,Za]
 | q+1,j,es,S,hq,hS=>by
  have d:(j:Int) < (rs.length:Int):=by omega
  have h7:=Zs (i:=j) (n:=rs.length) (by omega) (by omega)
  obtain ⟨r,hr⟩:=Ze (l:=rs) (i:=j) (by omega)
  have gr:=Yj hr
  have xp:=Yy t1 hc r (hrs r (List.mem_of_getElem? hr)) t1.key hN hk
  have xk:=Y6 (ZQ t1 t1.key r) (by rw [Z5];exact hk)
  have ekk:YM (ZQ t1 t1.key r)=ZD t1 t1.key r:=rfl
  rw [ekk] at xk
  obtain ⟨v,hf,_,_,hS'⟩:=YY hS (ZD t1 t1.key r)
  obtain ⟨es',h',ih⟩:=ZjJ x ds t0 t1 E0 hc hk hN rs hrs hl q (j+1) _ _ (by omega) hS'
  refine ⟨es',h'.same fun s=>(by
   rw [ZE hr]
   simp only [List.map_cons,List.cons_append,List.mem_append,List.mem_cons]
   constructor
   ·rintro (h | h | h)
    ·exact .inr (.inl h)
    ·exact .inl h
    ·exact .inr (.inr h)
   ·rintro (h | h | h)
    ·exact .inr (.inl h)
    ·exact .inl h
    ·exact .inr (.inr h)),fun ks jj Bo hB hj=>?_⟩
  subst hj
  have ih:=ih ks _ Bo hB rfl
  simp only [Zn] at gr
  simp only [ZX,Za] at xp
  simp only [Za] at ih
  unfold Zf at hB
  simp -implicitDefEqProofs only [go_sem,simprocAttr,Tryz.f52,Zb] at hB
  subst hB
  rw [Zc]
  simp -implicitDefEqProofs only [go_sem,simprocAttr,d,h7,gr,xp,xk,hf,Za,Zn]
  exact ih
theorem Zm6 (x:List Tbl) (ds:List Dat) (h:Led x ds) (hm:x.length=2) (t0 t1:Tbl) (D0 D1:Dat) (E0 E1:List (AV×AV)) (ht0:x[0]? = some t0) (hd0:ds[0]? = some D0) (s0:SetM E0 (D0.rows.map (ZD t0 t0.key))) (ht1:x[1]? = some t1) (hd1:ds[1]? = some D1) (s1:SetM E1 (D1.rows.map (ZD t1 t1.key))) (i:Nat) (t:Tbl) (d:Dat) (hi:x[i]? = some t) (hd:ds[i]? = some d) (f:Fgn) (mf:f∈t.fgn) (jf:Int) (ks:List It) :
  ∀ (q j:Nat) (jj:Int) (Bo:Code),Zf Tryz.f52 8 Bo→jj=(j:Int)→d.rows.length=j+q →
  RL K (.run 52 0 (.code Bo::.lp Bo (some ([2,3,5,12,13,15,64,65,66,72,73,74,83,84,85],[])) 9::.blk 8 9::ks) [(2,.ptr 0 0),(3,.ptr 1 0),(5,.own 2 2),(12,I (i:Int)),(13,.ptr 7 0),(15,.ptr 8 0),(64,.rows (x.map Za)),(65,I 2),(66,I (i:Int)),(72,.rows (t.fgn.map Zt)),(73,I (t.fgn.length:Int)),(74,I jf),(83,.rows (d.rows.map Zn)),(84,I (d.rows.length:Int)),(85,I jj)] [.cells [.rows (x.map Za)],.cells [.rows (ds.map Zh)],.rows 1 [[.mp 4],[.mp 6]] true,.cells (Za t0),.map E0,.cells (Za t1),.map E1,.cells (Za t),.cells (Zt f)]) =
  if XA (Z1 true t f.cols) (ZF x ds f.tb) (d.rows.drop j)=0 then R K (.run 52 0 ks [(2,.ptr 0 0),(3,.ptr 1 0),(5,.own 2 2),(12,I (i:Int)),(13,.ptr 7 0),(64,.rows (x.map Za)),(65,I 2),(66,I (i:Int)),(72,.rows (t.fgn.map Zt)),(73,I (t.fgn.length:Int)),(74,I jf)] [.cells [.rows (x.map Za)],.cells [.rows (ds.map Zh)],.rows 1 [[.mp 4],[.mp 6]] true,.cells (Za t0),.map E0,.cells (Za t1),.map E1,.cells (Za t),.cells (Zt f)]) else some (I (XA (Z1 true t f.cols) (ZF x ds f.tb) (d.rows.drop j)),[])
 | 0,j,jj,Bo,hB,hj,hq=>by
  have d1:¬(j:Int) < (d.rows.length:Int):=by omega
  subst hj
  rw [List.drop_of_length_le (by omega),if_pos (show XA (Z1 true t f.cols) (ZF x ds f.tb) []=0 from rfl)]
  unfold Zf at hB
  simp -implicitDefEqProofs only [go_sem,simprocAttr,Tryz.f52,Zb] at hB
  subst hB
  rw [Zc]
  simp -implicitDefEqProofs only [go_sem,simprocAttr,d1,Za,Zt]
 | q+1,j,jj,Bo,hB,hj,hq=>by
  have hB':=hB
  have mt:=List.mem_of_getElem? hi
  have ft:=h.fit.tbl t mt
  have fd:=h.few.rows d (List.mem_of_getElem? hd)
  have hfit:=h.ok.fit i t d hi hd
  have d1:(j:Int) < (d.rows.length:Int):=by omega
  have h7:=Zs (i:=j) (n:=d.rows.length) (by omega) (by omega)
  obtain ⟨r,hr⟩:=Ze (l:=d.rows) (i:=j) (by omega)
  have gr:=Yj hr
  have hcf:=(ft.fg f mf).2
  have xp:=Yy t ft.cols r (hfit r (List.mem_of_getElem? hr)) f.cols ((h.right.ok t mt).fg f mf) hcf
  have xk:=Y6 (ZQ t f.cols r) (by rw [Z5];exact hcf)
  have ekk:YM (ZQ t f.cols r)=ZD t f.cols r:=rfl
  rw [ekk] at xk
  obtain ⟨w,u,g,hw,hu,hg⟩:=h.to mt mf
  have xt:=Yu x f.tb h.fit.len
  rw [hw] at xt
  have hwl:=(List.getElem?_eq_some_iff.1 hu).1
  rw [hm] at hwl
  have e0:=Zbq (Z1 true t f.cols) (ZF x ds f.tb) r (d.rows.drop (j+1))
  rw [show r::d.rows.drop (j+1)=d.rows.drop j from (ZE hr).symm] at e0
  have ih:=Zm6 x ds h hm t0 t1 D0 D1 E0 E1 ht0 hd0 s0 ht1 hd1 s1 i t d hi hd f mf jf ks q (j+1) _ Bo hB' rfl (by omega)
  subst hj
  simp only [Zn] at gr
  simp only [ZX,Za] at xp
  cases hv:Ww (ZQ t f.cols r) with
  | true =>
   have ek:Z1 true t f.cols r=none:=by simp [Z1,hv]
   rw [ek] at e0
   simp only at e0
   rw [hv] at xp
   simp only [e0]
   simp only [Za,Zt] at ih ⊢
   unfold Zf at hB
   simp -implicitDefEqProofs only [go_sem,simprocAttr,Tryz.f52,Zb] at hB
   subst hB
   rw [Zc]
   simp -implicitDefEqProofs only [go_sem,simprocAttr,d1,h7,gr,xp,xk,xt,Bool.not_true,Za,Zt,Zn]
   exact ih
  | false =>
   have ek:Z1 true t f.cols r=some (ZD t f.cols r):=by simp [Z1,hv]
   rw [ek] at e0
   simp only at e0
   rw [hv] at xp
   have hw0:w=0∨w=1:=by omega
   rcases hw0 with hw0 | hw0
   ·subst hw0
    have ek:ZF x ds f.tb=D0.rows.map (ZD t0 t0.key):=by
     simp only [ZF,hw,Int.toNat_natCast,ht0,hd0]
    obtain ⟨a1,a2⟩:=J3 s0 (ZD t f.cols r)
    rw [←ek] at a1 a2
    by_cases hmm:ZD t f.cols r∈ZF x ds f.tb
    ·obtain ⟨i0,hf⟩:=a1 hmm
     rw [if_pos hmm] at e0
     simp only [e0]
     simp only [Za,Zt] at ih ⊢
     unfold Zf at hB
     simp -implicitDefEqProofs only [go_sem,simprocAttr,Tryz.f52,Zb] at hB
     subst hB
     rw [Zc]
     simp -implicitDefEqProofs only [go_sem,simprocAttr,d1,h7,gr,xp,xk,xt,hf,Bool.not_false,Za,Zt,Zn]
     exact ih
    ·have hf:=a2 hmm
     rw [if_neg hmm] at e0
     simp only [e0,show ¬((11:Int)=0) by decide,if_false]
     simp only [Za,Zt]
     unfold Zf at hB
     simp -implicitDefEqProofs only [go_sem,simprocAttr,Tryz.f52,Zb] at hB
     subst hB
     rw [Zc]
     simp -implicitDefEqProofs only [go_sem,simprocAttr,d1,h7,gr,xp,xk,xt,hf,Bool.not_false,Za,Zt,Zn]
   ·subst hw0
    have ek:ZF x ds f.tb=D1.rows.map (ZD t1 t1.key):=by
     simp only [ZF,hw,Int.toNat_natCast,ht1,hd1]
    obtain ⟨a1,a2⟩:=J3 s1 (ZD t f.cols r)
    rw [←ek] at a1 a2
    by_cases hmm:ZD t f.cols r∈ZF x ds f.tb
    ·obtain ⟨i0,hf⟩:=a1 hmm
     rw [if_pos hmm] at e0
     simp only [e0]
     simp only [Za,Zt] at ih ⊢
     unfold Zf at hB
     simp -implicitDefEqProofs only [go_sem,simprocAttr,Tryz.f52,Zb] at hB
     subst hB
     rw [Zc]
     simp -implicitDefEqProofs only [go_sem,simprocAttr,d1,h7,gr,xp,xk,xt,hf,Bool.not_false,Za,Zt,Zn]
     exact ih
    ·have hf:=a2 hmm
     rw [if_neg hmm] at e0
     simp only [e0,show ¬((11:Int)=0) by decide,if_false]
     simp only [Za,Zt]
     unfold Zf at hB
     simp -implicitDefEqProofs only [go_sem,simprocAttr,Tryz.f52,Zb] at hB
     subst hB
     rw [Zc]
     simp -implicitDefEqProofs only [go_sem,simprocAttr,d1,h7,gr,xp,xk,xt,hf,Bool.not_false,Za,Zt,Zn]
theorem Zmi (x:List Tbl) (ds:List Dat) (h:Led x ds) (hm:x.length=2) (t0 t1:Tbl) (D0 D1:Dat) (E0 E1:List (AV×AV)) (ht0:x[0]? = some t0) (hd0:ds[0]? = some D0) (s0:SetM E0 (D0.rows.map (ZD t0 t0.key))) (ht1:x[1]? = some t1) (hd1:ds[1]? = some D1) (s1:SetM E1 (D1.rows.map (ZD t1 t1.key))) (i:Nat) (t:Tbl) (d:Dat) (hi:x[i]? = some t) (hd:ds[i]? = some d) (ks:List It) :
  ∀ (q j:Nat) (jj:Int) (Bo:Code),Zf Tryz.f52 6 Bo→jj=(j:Int)→t.fgn.length=j+q →
  RL K (.run 52 0 (.code Bo::.lp Bo (some ([2,3,5,12,13,64,65,66,72,73,74],[])) 8::.blk 6 8::ks) [(2,.ptr 0 0),(3,.ptr 1 0),(5,.own 2 2),(12,I (i:Int)),(13,.ptr 7 0),(64,.rows (x.map Za)),(65,I 2),(66,I (i:Int)),(72,.rows (t.fgn.map Zt)),(73,I (t.fgn.length:Int)),(74,I jj)] [.cells [.rows (x.map Za)],.cells [.rows (ds.map Zh)],.rows 1 [[.mp 4],[.mp 6]] true,.cells (Za t0),.map E0,.cells (Za t1),.map E1,.cells (Za t)]) =
  if YI x ds t d.rows (t.fgn.drop j)=0 then R K (.run 52 0 ks [(2,.ptr 0 0),(3,.ptr 1 0),(5,.own 2 2),(64,.rows (x.map Za)),(65,I 2),(66,I (i:Int))] [.cells [.rows (x.map Za)],.cells [.rows (ds.map Zh)],.rows 1 [[.mp 4],[.mp 6]] true,.cells (Za t0),.map E0,.cells (Za t1),.map E1,.cells (Za t)]) else some (I (YI x ds t d.rows (t.fgn.drop j)),[])
 | 0,j,jj,Bo,hB,hj,hq=>by
  have d1:¬(j:Int) < (t.fgn.length:Int):=by omega
  subst hj
  rw [List.drop_of_length_le (by omega),if_pos (show YI x ds t d.rows []=0 from rfl)]
  unfold Zf at hB
  simp -implicitDefEqProofs only [go_sem,simprocAttr,Tryz.f52,Zb] at hB
  subst hB
  rw [Zc]
  simp -implicitDefEqProofs only [go_sem,simprocAttr,d1,Za]
 | q+1,j,jj,Bo,hB,hj,hq=>by
  have hB':=hB
  have mt:=List.mem_of_getElem? hi
  have tfl:=(h.fit.tbl t mt).fgn
  have d1:(j:Int) < (t.fgn.length:Int):=by omega
  have h7:=Zs (i:=j) (n:=t.fgn.length) (by omega) (by omega)
  obtain ⟨f,hf⟩:=Ze (l:=t.fgn) (i:=j) (by omega)
  have gf:=Xz hf
  have gd:=YE hd
  have l8:=fun ks B hB=>Zm6 x ds h hm t0 t1 D0 D1 E0 E1 ht0 hd0 s0 ht1 hd1 s1 i t d hi hd f (List.mem_of_getElem? hf) (j:Int) ks d.rows.length 0 0 B hB rfl (by omega)
  rw [List.drop_zero] at l8
  have ih:=Zmi x ds h hm t0 t1 D0 D1 E0 E1 ht0 hd0 s0 ht1 hd1 s1 i t d hi hd ks q (j+1) _ Bo hB' rfl (by omega)
  have e0:YI x ds t d.rows (t.fgn.drop j)=if XA (Z1 true t f.cols) (ZF x ds f.tb) d.rows=0 then YI x ds t d.rows (t.fgn.drop (j+1)) else XA (Z1 true t f.cols) (ZF x ds f.tb) d.rows:=by
   rw [ZE hf]
   rfl
  subst hj
  simp only [Zt] at gf
  simp only [Zh] at gd
  by_cases h0:XA (Z1 true t f.cols) (ZF x ds f.tb) d.rows=0
  ·rw [if_pos h0] at e0
   simp only [h0,if_true] at l8
   simp only [e0]
   simp only [Za,Zt] at l8 ih ⊢
   unfold Zf at hB
   simp -implicitDefEqProofs only [go_sem,simprocAttr,Tryz.f52,Zb] at hB
   subst hB
   rw [Zc]
   simp -implicitDefEqProofs only [go_sem,simprocAttr,d1,h7,gf,gd,Za,Zt,Zh,List.length_map]
   rw [l8 _ _ (by rfl)]
   simp -implicitDefEqProofs only [go_sem,simprocAttr,h7,Za,Zt,List.length_map]
   exact ih
  ·rw [if_neg h0] at e0
   simp only [h0,if_false] at l8
   simp only [e0,h0,if_false]
   simp only [Za,Zt] at l8 ⊢
   unfold Zf at hB
   simp -implicitDefEqProofs only [go_sem,simprocAttr,Tryz.f52,Zb] at hB
   subst hB
   rw [Zc]
   simp -implicitDefEqProofs only [go_sem,simprocAttr,d1,h7,gf,gd,Za,Zt,Zh,List.length_map]
   rw [l8 _ _ (by rfl)]
theorem Zma (x:List Tbl) (ds:List Dat) (h:Led x ds) (hm:x.length=2) (t0 t1:Tbl) (D0 D1:Dat) (E0 E1:List (AV×AV)) (ht0:x[0]? = some t0) (hd0:ds[0]? = some D0) (s0:SetM E0 (D0.rows.map (ZD t0 t0.key))) (ht1:x[1]? = some t1) (hd1:ds[1]? = some D1) (s1:SetM E1 (D1.rows.map (ZD t1 t1.key))) (ks:List It):∀ (q i:Nat) (ii:Int) (Bo:Code),Zf Tryz.f52 4 Bo→ii=(i:Int)→x.length=i+q →
  RL K (.run 52 0 (.code Bo::.lp Bo (some ([2,3,5,64,65,66],[])) 7::.blk 4 7::ks) [(2,.ptr 0 0),(3,.ptr 1 0),(5,.own 2 2),(64,.rows (x.map Za)),(65,I 2),(66,I ii)] [.cells [.rows (x.map Za)],.cells [.rows (ds.map Zh)],.rows 1 [[.mp 4],[.mp 6]] true,.cells (Za t0),.map E0,.cells (Za t1),.map E1]) =
  if evE (Yl x ds) i q=0 then R K (.run 52 0 ks [] [.cells [.rows (x.map Za)],.cells [.rows (ds.map Zh)],.rows 1 [[.mp 4],[.mp 6]] true,.cells (Za t0),.map E0,.cells (Za t1),.map E1]) else some (I (evE (Yl x ds) i q),[])
 | 0,i,ii,Bo,hB,hi,hq=>by
  have d1:¬(i:Int) < 2:=by omega
  subst hi
  rw [if_pos (show evE (Yl x ds) i 0=0 from rfl)]
  unfold Zf at hB
  simp -implicitDefEqProofs only [go_sem,simprocAttr,Tryz.f52,Zb] at hB
  subst hB
  rw [Zc]
  simp -implicitDefEqProofs only [go_sem,simprocAttr,d1,Za]
 | q+1,i,ii,Bo,hB,hi,hq=>by
  have hB':=hB
  have d1:(i:Int) < 2:=by omega
  have h7:=Zs (i:=i) (n:=x.length) (by omega) (by omega)
  have hdl:=h.ok.len
  obtain ⟨t,ht⟩:=Ze (l:=x) (i:=i) (by omega)
  obtain ⟨d,hd⟩:=Ze (l:=ds) (i:=i) (by omega)
  have gt:=ZG ht
  have l6:=fun ks B hB=>Zmi x ds h hm t0 t1 D0 D1 E0 E1 ht0 hd0 s0 ht1 hd1 s1 i t d ht hd ks t.fgn.length 0 0 B hB rfl (by omega)
  rw [List.drop_zero] at l6
  have ih:=Zma x ds h hm t0 t1 D0 D1 E0 E1 ht0 hd0 s0 ht1 hd1 s1 ks q (i+1) _ Bo hB' rfl (by omega)
  have ea:Yl x ds i=YI x ds t d.rows t.fgn:=by simp only [Yl,ht,hd]
  subst hi
  simp only [evE,ea]
  by_cases h0:YI x ds t d.rows t.fgn=0
  ·simp only [h0,if_true] at l6 ⊢
   simp only [Za] at l6 gt ih ⊢
   unfold Zf at hB
   simp -implicitDefEqProofs only [go_sem,simprocAttr,Tryz.f52,Zb] at hB
   subst hB
   rw [Zc]
   simp -implicitDefEqProofs only [go_sem,simprocAttr,d1,h7,gt,Za,List.length_map]
   rw [l6 _ _ (by rfl)]
   simp -implicitDefEqProofs only [go_sem,simprocAttr,h7,Za,List.length_map]
   exact ih
  ·simp only [h0,if_false] at l6 ⊢
   simp only [Za] at l6 gt ⊢
   unfold Zf at hB
   simp -implicitDefEqProofs only [go_sem,simprocAttr,Tryz.f52,Zb] at hB
   subst hB
   rw [Zc]
   simp -implicitDefEqProofs only [go_sem,simprocAttr,d1,h7,gt,Za,List.length_map]
   rw [l6 _ _ (by rfl)]
theorem Zgf (x:List Tbl) (ds:List Dat) (h:Led x ds) (hm:x.length=2):R K (.call 52 [WI x,YF ds] [])=some (I (Wm x ds),[]):=by
 have hmi:((x.length:Nat):Int)=2:=by omega
 have hdl:=h.ok.len
 obtain ⟨t0,ht0⟩:=Ze (l:=x) (i:=0) (by omega)
 obtain ⟨D0,hd0⟩:=Ze (l:=ds) (i:=0) (by omega)
 have gt0:at? (x.map Za) 0=some (Za t0):=ZG ht0
 have gd0:at? (ds.map Zh) 0=some (Zh D0):=YE hd0
 have mt0:=List.mem_of_getElem? ht0
 obtain ⟨E0,s0,l0⟩:=ZjK x ds t0  (h.fit.tbl t0 mt0).cols (h.fit.tbl t0 mt0).key (h.right.ok t0 mt0).key D0.rows (h.ok.fit 0 t0 D0 ht0 hd0) (h.few.rows D0 (List.mem_of_getElem? hd0)).1 D0.rows.length 0 [] [] (by omega) SetM.nil
 rw [List.drop_zero,List.append_nil] at s0
 have l0:=fun ks B hB=>l0 ks 0 B hB rfl
 obtain ⟨t1,ht1⟩:=Ze (l:=x) (i:=1) (by omega)
 obtain ⟨D1,hd1⟩:=Ze (l:=ds) (i:=1) (by omega)
 have gt1:at? (x.map Za) 1=some (Za t1):=ZG ht1
 have gd1:at? (ds.map Zh) 1=some (Zh D1):=YE hd1
 have mt1:=List.mem_of_getElem? ht1
 obtain ⟨E1,s1,l1⟩:=ZjJ x ds t0 t1 E0 (h.fit.tbl t1 mt1).cols (h.fit.tbl t1 mt1).key (h.right.ok t1 mt1).key D1.rows (h.ok.fit 1 t1 D1 ht1 hd1) (h.few.rows D1 (List.mem_of_getElem? hd1)).1 D1.rows.length 0 [] [] (by omega) SetM.nil
 rw [List.drop_zero,List.append_nil] at s1
 have l1:=fun ks B hB=>l1 ks 0 B hB rfl
 have l4:=fun ks B hB=>Zma x ds h hm t0 t1 D0 D1 E0 E1 ht0 hd0 s0 ht1 hd1 s1 ks x.length 0 0 B hB rfl (by omega)
 have er:evE (Yl x ds) 0 x.length=Wm x ds:=rfl
 rw [er] at l4
 simp only [Za] at l4 l0 gt0 l1 gt1
 simp only [Zh] at gd0 gd1
 by_cases h0:Wm x ds=0
 ·simp only [h0,if_true] at l4 ⊢
  rw [Zbt]
  simp -implicitDefEqProofs only [go_sem,simprocAttr,Tryz.f52,Y2,hmi,gt0,gd0,gt1,gd1,Za,Zh,List.length_map]
  rw [Zc]
  simp -implicitDefEqProofs only [go_sem,simprocAttr,Y2,hmi,gt0,gd0,gt1,gd1,Za,Zh,List.length_map]
  rw [l0 _ _ (by rfl)]
  simp -implicitDefEqProofs only [go_sem,simprocAttr,Y2,hmi,gt0,gd0,gt1,gd1,Za,Zh,List.length_map]
  rw [Zc]
  simp -implicitDefEqProofs only [go_sem,simprocAttr,Y2,hmi,gt0,gd0,gt1,gd1,Za,Zh,List.length_map]
  rw [l1 _ _ (by rfl)]
  simp -implicitDefEqProofs only [go_sem,simprocAttr,Y2,hmi,gt0,gd0,gt1,gd1,Za,Zh,List.length_map]
  rw [Zc]
  simp -implicitDefEqProofs only [go_sem,simprocAttr,Y2,hmi,gt0,gd0,gt1,gd1,Za,Zh,List.length_map]
  rw [l4 _ _ (by rfl)]
  simp -implicitDefEqProofs only [go_sem,simprocAttr,Za]
 ·simp only [h0,if_false] at l4
  rw [Zbt]
  simp -implicitDefEqProofs only [go_sem,simprocAttr,Tryz.f52,Y2,hmi,gt0,gd0,gt1,gd1,Za,Zh,List.length_map]
  rw [Zc]
  simp -implicitDefEqProofs only [go_sem,simprocAttr,Y2,hmi,gt0,gd0,gt1,gd1,Za,Zh,List.length_map]
  rw [l0 _ _ (by rfl)]
  simp -implicitDefEqProofs only [go_sem,simprocAttr,Y2,hmi,gt0,gd0,gt1,gd1,Za,Zh,List.length_map]
  rw [Zc]
  simp -implicitDefEqProofs only [go_sem,simprocAttr,Y2,hmi,gt0,gd0,gt1,gd1,Za,Zh,List.length_map]
  rw [l1 _ _ (by rfl)]
  simp -implicitDefEqProofs only [go_sem,simprocAttr,Y2,hmi,gt0,gd0,gt1,gd1,Za,Zh,List.length_map]
  rw [Zc]
  simp -implicitDefEqProofs only [go_sem,simprocAttr,Y2,hmi,gt0,gd0,gt1,gd1,Za,Zh,List.length_map]
  rw [l4 _ _ (by rfl)]
theorem Zi7 (x:List Tbl) (ds:List Dat) (t0:Tbl) (hc:t0.cols.length≤1000000) (hk:t0.key.length≤1000000) (hN:Zr t0 t0.key) (rs:List (List Val)) (hrs:ZK t0 rs) (hl:rs.length≤1000000) :
  ∀ (q j:Nat) (es:List (AV×AV)) (S:List (List UInt8)),rs.length=j+q→SetM es S→∃ es',SetM es' ((rs.drop j).map (ZD t0 t0.key)++S)∧∀ (ks:List It) (jj:Int) (Bo:Code),Zf Tryz.f52 2 Bo→jj=(j:Int) →
  RL K (.run 52 0 (.code Bo::.lp Bo (some ([2,3,5,6,7,25,26,27,41,42,43],[])) 5::.blk 2 5::ks) [(2,.ptr 0 0),(3,.ptr 1 0),(5,.own 2 3),(6,I 0),(7,.ptr 3 0),(25,.rows (x.map Za)),(26,I 3),(27,I 0),(41,.rows (rs.map Zn)),(42,I (rs.length:Int)),(43,I jj)] [.cells [.rows (x.map Za)],.cells [.rows (ds.map Zh)],.rows 1 [[.mp 4],[.nilm],[.nilm]] true,.cells (Za t0),.map es]) =
  R K (.run 52 0 ks [(2,.ptr 0 0),(3,.ptr 1 0),(5,.own 2 3),(25,.rows (x.map Za)),(26,I 3),(27,I 0)] [.cells [.rows (x.map Za)],.cells [.rows (ds.map Zh)],.rows 1 [[.mp 4],[.nilm],[.nilm]] true,.cells (Za t0),.map es'])
 | 0,j,es,S,hq,hS=>by
  have d:¬(j:Int) < (rs.length:Int):=by omega
  refine ⟨es,by rw [List.drop_of_length_le (by omega)];exact hS,fun ks jj Bo hB hj=>?_⟩
  subst hj
  unfold Zf at hB
  simp -implicitDefEqProofs only [go_sem,simprocAttr,Tryz.f52,Zb] at hB
  subst hB
  rw [Zc]
  simp -implicitDefEqProofs only [go_sem,simprocAttr,d,Za]
 | q+1,j,es,S,hq,hS=>by
  have d:(j:Int) < (rs.length:Int):=by omega
  have h7:=Zs (i:=j) (n:=rs.length) (by omega) (by omega)
  obtain ⟨r,hr⟩:=Ze (l:=rs) (i:=j) (by omega)
  have gr:=Yj hr
  have xp:=Yy t0 hc r (hrs r (List.mem_of_getElem? hr)) t0.key hN hk
  have xk:=Y6 (ZQ t0 t0.key r) (by rw [Z5];exact hk)
  have ekk:YM (ZQ t0 t0.key r)=ZD t0 t0.key r:=rfl
  rw [ekk] at xk
  obtain ⟨v,hf,_,_,hS'⟩:=YY hS (ZD t0 t0.key r)
  obtain ⟨es',h',ih⟩:=Zi7 x ds t0  hc hk hN rs hrs hl q (j+1) _ _ (by omega) hS'
  refine ⟨es',h'.same fun s=>(by
   rw [ZE hr]
   simp only [List.map_cons,List.cons_append,List.mem_append,List.mem_cons]
   constructor
   ·rintro (h | h | h)
    ·exact .inr (.inl h)
    ·exact .inl h
    ·exact .inr (.inr h)
   ·rintro (h | h | h)
    ·exact .inr (.inl h)
    ·exact .inl h
    ·exact .inr (.inr h)),fun ks jj Bo hB hj=>?_⟩
  subst hj
  have ih:=ih ks _ Bo hB rfl
  simp only [Zn] at gr
  simp only [ZX,Za] at xp
  simp only [Za] at ih
  unfold Zf at hB
  simp -implicitDefEqProofs only [go_sem,simprocAttr,Tryz.f52,Zb] at hB
  subst hB
  rw [Zc]
  simp -implicitDefEqProofs only [go_sem,simprocAttr,d,h7,gr,xp,xk,hf,Za,Zn]
  exact ih
theorem Zja (x:List Tbl) (ds:List Dat) (t0 t1:Tbl) (E0:List (AV×AV)) (hc:t1.cols.length≤1000000) (hk:t1.key.length≤1000000) (hN:Zr t1 t1.key) (rs:List (List Val)) (hrs:ZK t1 rs) (hl:rs.length≤1000000) :
  ∀ (q j:Nat) (es:List (AV×AV)) (S:List (List UInt8)),rs.length=j+q→SetM es S→∃ es',SetM es' ((rs.drop j).map (ZD t1 t1.key)++S)∧∀ (ks:List It) (jj:Int) (Bo:Code),Zf Tryz.f52 2 Bo→jj=(j:Int) →
  RL K (.run 52 0 (.code Bo::.lp Bo (some ([2,3,5,6,7,25,26,27,41,42,43],[])) 7::.blk 2 7::ks) [(2,.ptr 0 0),(3,.ptr 1 0),(5,.own 2 3),(6,I 1),(7,.ptr 5 0),(25,.rows (x.map Za)),(26,I 3),(27,I 1),(41,.rows (rs.map Zn)),(42,I (rs.length:Int)),(43,I jj)] [.cells [.rows (x.map Za)],.cells [.rows (ds.map Zh)],.rows 1 [[.mp 4],[.mp 6],[.nilm]] true,.cells (Za t0),.map E0,.cells (Za t1),.map es]) =
  R K (.run 52 0 ks [(2,.ptr 0 0),(3,.ptr 1 0),(5,.own 2 3),(25,.rows (x.map Za)),(26,I 3),(27,I 1)] [.cells [.rows (x.map Za)],.cells [.rows (ds.map Zh)],.rows 1 [[.mp 4],[.mp 6],[.nilm]] true,.cells (Za t0),.map E0,.cells (Za t1),.map es'])
 | 0,j,es,S,hq,hS=>by
  have d:¬(j:Int) < (rs.length:Int):=by omega
  refine ⟨es,by rw [List.drop_of_length_le (by omega)];exact hS,fun ks jj Bo hB hj=>?_⟩
  subst hj
  unfold Zf at hB
  simp -implicitDefEqProofs only [go_sem,simprocAttr,Tryz.f52,Zb] at hB
  subst hB
  rw [Zc]
  simp -implicitDefEqProofs only [go_sem,simprocAttr,d,Za]
 | q+1,j,es,S,hq,hS=>by
  have d:(j:Int) < (rs.length:Int):=by omega
  have h7:=Zs (i:=j) (n:=rs.length) (by omega) (by omega)
  obtain ⟨r,hr⟩:=Ze (l:=rs) (i:=j) (by omega)
  have gr:=Yj hr
  have xp:=Yy t1 hc r (hrs r (List.mem_of_getElem? hr)) t1.key hN hk
  have xk:=Y6 (ZQ t1 t1.key r) (by rw [Z5];exact hk)
  have ekk:YM (ZQ t1 t1.key r)=ZD t1 t1.key r:=rfl
  rw [ekk] at xk
  obtain ⟨v,hf,_,_,hS'⟩:=YY hS (ZD t1 t1.key r)
  obtain ⟨es',h',ih⟩:=Zja x ds t0 t1 E0 hc hk hN rs hrs hl q (j+1) _ _ (by omega) hS'
  refine ⟨es',h'.same fun s=>(by
   rw [ZE hr]
   simp only [List.map_cons,List.cons_append,List.mem_append,List.mem_cons]
   constructor
   ·rintro (h | h | h)
    ·exact .inr (.inl h)
    ·exact .inl h
    ·exact .inr (.inr h)
   ·rintro (h | h | h)
    ·exact .inr (.inl h)
    ·exact .inl h
    ·exact .inr (.inr h)),fun ks jj Bo hB hj=>?_⟩
  subst hj
  have ih:=ih ks _ Bo hB rfl
  simp only [Zn] at gr
  simp only [ZX,Za] at xp
  simp only [Za] at ih
  unfold Zf at hB
  simp -implicitDefEqProofs only [go_sem,simprocAttr,Tryz.f52,Zb] at hB
  subst hB
  rw [Zc]
  simp -implicitDefEqProofs only [go_sem,simprocAttr,d,h7,gr,xp,xk,hf,Za,Zn]
  exact ih
theorem ZjW (x:List Tbl) (ds:List Dat) (t0 t1 t2:Tbl) (E0 E1:List (AV×AV)) (hc:t2.cols.length≤1000000) (hk:t2.key.length≤1000000) (hN:Zr t2 t2.key) (rs:List (List Val)) (hrs:ZK t2 rs) (hl:rs.length≤1000000) :
  ∀ (q j:Nat) (es:List (AV×AV)) (S:List (List UInt8)),rs.length=j+q→SetM es S→∃ es',SetM es' ((rs.drop j).map (ZD t2 t2.key)++S)∧∀ (ks:List It) (jj:Int) (Bo:Code),Zf Tryz.f52 2 Bo→jj=(j:Int) →
  RL K (.run 52 0 (.code Bo::.lp Bo (some ([2,3,5,6,7,25,26,27,41,42,43],[])) 9::.blk 2 9::ks) [(2,.ptr 0 0),(3,.ptr 1 0),(5,.own 2 3),(6,I 2),(7,.ptr 7 0),(25,.rows (x.map Za)),(26,I 3),(27,I 2),(41,.rows (rs.map Zn)),(42,I (rs.length:Int)),(43,I jj)] [.cells [.rows (x.map Za)],.cells [.rows (ds.map Zh)],.rows 1 [[.mp 4],[.mp 6],[.mp 8]] true,.cells (Za t0),.map E0,.cells (Za t1),.map E1,.cells (Za t2),.map es]) =
  R K (.run 52 0 ks [(2,.ptr 0 0),(3,.ptr 1 0),(5,.own 2 3),(25,.rows (x.map Za)),(26,I 3),(27,I 2)] [.cells [.rows (x.map Za)],.cells [.rows (ds.map Zh)],.rows 1 [[.mp 4],[.mp 6],[.mp 8]] true,.cells (Za t0),.map E0,.cells (Za t1),.map E1,.cells (Za t2),.map es'])
 | 0,j,es,S,hq,hS=>by
  have d:¬(j:Int) < (rs.length:Int):=by omega
  refine ⟨es,by rw [List.drop_of_length_le (by omega)];exact hS,fun ks jj Bo hB hj=>?_⟩
  subst hj
  unfold Zf at hB
  simp -implicitDefEqProofs only [go_sem,simprocAttr,Tryz.f52,Zb] at hB
  subst hB
  rw [Zc]
  simp -implicitDefEqProofs only [go_sem,simprocAttr,d,Za]
 | q+1,j,es,S,hq,hS=>by
  have d:(j:Int) < (rs.length:Int):=by omega
  have h7:=Zs (i:=j) (n:=rs.length) (by omega) (by omega)
  obtain ⟨r,hr⟩:=Ze (l:=rs) (i:=j) (by omega)
  have gr:=Yj hr
  have xp:=Yy t2 hc r (hrs r (List.mem_of_getElem? hr)) t2.key hN hk
  have xk:=Y6 (ZQ t2 t2.key r) (by rw [Z5];exact hk)
  have ekk:YM (ZQ t2 t2.key r)=ZD t2 t2.key r:=rfl
  rw [ekk] at xk
  obtain ⟨v,hf,_,_,hS'⟩:=YY hS (ZD t2 t2.key r)
  obtain ⟨es',h',ih⟩:=ZjW x ds t0 t1 t2 E0 E1 hc hk hN rs hrs hl q (j+1) _ _ (by omega) hS'
  refine ⟨es',h'.same fun s=>(by
   rw [ZE hr]
   simp only [List.map_cons,List.cons_append,List.mem_append,List.mem_cons]
   constructor
   ·rintro (h | h | h)
    ·exact .inr (.inl h)
    ·exact .inl h
    ·exact .inr (.inr h)
   ·rintro (h | h | h)
    ·exact .inr (.inl h)
    ·exact .inl h
    ·exact .inr (.inr h)),fun ks jj Bo hB hj=>?_⟩
  subst hj
  have ih:=ih ks _ Bo hB rfl
  simp only [Zn] at gr
  simp only [ZX,Za] at xp
  simp only [Za] at ih
  unfold Zf at hB
  simp -implicitDefEqProofs only [go_sem,simprocAttr,Tryz.f52,Zb] at hB
  subst hB
  rw [Zc]
  simp -implicitDefEqProofs only [go_sem,simprocAttr,d,h7,gr,xp,xk,hf,Za,Zn]
  exact ih
theorem Zmd (x:List Tbl) (ds:List Dat) (h:Led x ds) (hm:x.length=3) (t0 t1 t2:Tbl) (D0 D1 D2:Dat) (E0 E1 E2:List (AV×AV)) (ht0:x[0]? = some t0) (hd0:ds[0]? = some D0) (s0:SetM E0 (D0.rows.map (ZD t0 t0.key))) (ht1:x[1]? = some t1) (hd1:ds[1]? = some D1) (s1:SetM E1 (D1.rows.map (ZD t1 t1.key))) (ht2:x[2]? = some t2) (hd2:ds[2]? = some D2) (s2:SetM E2 (D2.rows.map (ZD t2 t2.key))) (i:Nat) (t:Tbl) (d:Dat) (hi:x[i]? = some t) (hd:ds[i]? = some d) (f:Fgn) (mf:f∈t.fgn) (jf:Int) (ks:List It) :
  ∀ (q j:Nat) (jj:Int) (Bo:Code),Zf Tryz.f52 8 Bo→jj=(j:Int)→d.rows.length=j+q →
  RL K (.run 52 0 (.code Bo::.lp Bo (some ([2,3,5,12,13,15,64,65,66,72,73,74,83,84,85],[])) 11::.blk 8 11::ks) [(2,.ptr 0 0),(3,.ptr 1 0),(5,.own 2 3),(12,I (i:Int)),(13,.ptr 9 0),(15,.ptr 10 0),(64,.rows (x.map Za)),(65,I 3),(66,I (i:Int)),(72,.rows (t.fgn.map Zt)),(73,I (t.fgn.length:Int)),(74,I jf),(83,.rows (d.rows.map Zn)),(84,I (d.rows.length:Int)),(85,I jj)] [.cells [.rows (x.map Za)],.cells [.rows (ds.map Zh)],.rows 1 [[.mp 4],[.mp 6],[.mp 8]] true,.cells (Za t0),.map E0,.cells (Za t1),.map E1,.cells (Za t2),.map E2,.cells (Za t),.cells (Zt f)]) =
  if XA (Z1 true t f.cols) (ZF x ds f.tb) (d.rows.drop j)=0 then R K (.run 52 0 ks [(2,.ptr 0 0),(3,.ptr 1 0),(5,.own 2 3),(12,I (i:Int)),(13,.ptr 9 0),(64,.rows (x.map Za)),(65,I 3),(66,I (i:Int)),(72,.rows (t.fgn.map Zt)),(73,I (t.fgn.length:Int)),(74,I jf)] [.cells [.rows (x.map Za)],.cells [.rows (ds.map Zh)],.rows 1 [[.mp 4],[.mp 6],[.mp 8]] true,.cells (Za t0),.map E0,.cells (Za t1),.map E1,.cells (Za t2),.map E2,.cells (Za t),.cells (Zt f)]) else some (I (XA (Z1 true t f.cols) (ZF x ds f.tb) (d.rows.drop j)),[])
 | 0,j,jj,Bo,hB,hj,hq=>by
  have d1:¬(j:Int) < (d.rows.length:Int):=by omega
  subst hj
  rw [List.drop_of_length_le (by omega),if_pos (show XA (Z1 true t f.cols) (ZF x ds f.tb) []=0 from rfl)]
  unfold Zf at hB
  simp -implicitDefEqProofs only [go_sem,simprocAttr,Tryz.f52,Zb] at hB
  subst hB
  rw [Zc]
  simp -implicitDefEqProofs only [go_sem,simprocAttr,d1,Za,Zt]
 | q+1,j,jj,Bo,hB,hj,hq=>by
  have hB':=hB
  have mt:=List.mem_of_getElem? hi
  have ft:=h.fit.tbl t mt
  have fd:=h.few.rows d (List.mem_of_getElem? hd)
  have hfit:=h.ok.fit i t d hi hd
  have d1:(j:Int) < (d.rows.length:Int):=by omega
  have h7:=Zs (i:=j) (n:=d.rows.length) (by omega) (by omega)
  obtain ⟨r,hr⟩:=Ze (l:=d.rows) (i:=j) (by omega)
  have gr:=Yj hr
  have hcf:=(ft.fg f mf).2
  have xp:=Yy t ft.cols r (hfit r (List.mem_of_getElem? hr)) f.cols ((h.right.ok t mt).fg f mf) hcf
  have xk:=Y6 (ZQ t f.cols r) (by rw [Z5];exact hcf)
  have ekk:YM (ZQ t f.cols r)=ZD t f.cols r:=rfl
  rw [ekk] at xk
  obtain ⟨w,u,g,hw,hu,hg⟩:=h.to mt mf
  have xt:=Yu x f.tb h.fit.len
  rw [hw] at xt
  have hwl:=(List.getElem?_eq_some_iff.1 hu).1
  rw [hm] at hwl
  have e0:=Zbq (Z1 true t f.cols) (ZF x ds f.tb) r (d.rows.drop (j+1))
  rw [show r::d.rows.drop (j+1)=d.rows.drop j from (ZE hr).symm] at e0
  have ih:=Zmd x ds h hm t0 t1 t2 D0 D1 D2 E0 E1 E2 ht0 hd0 s0 ht1 hd1 s1 ht2 hd2 s2 i t d hi hd f mf jf ks q (j+1) _ Bo hB' rfl (by omega)
  subst hj
  simp only [Zn] at gr
  simp only [ZX,Za] at xp
  cases hv:Ww (ZQ t f.cols r) with
  | true =>
   have ek:Z1 true t f.cols r=none:=by simp [Z1,hv]
   rw [ek] at e0
   simp only at e0
   rw [hv] at xp
   simp only [e0]
   simp only [Za,Zt] at ih ⊢
   unfold Zf at hB
   simp -implicitDefEqProofs only [go_sem,simprocAttr,Tryz.f52,Zb] at hB
   subst hB
   rw [Zc]
   simp -implicitDefEqProofs only [go_sem,simprocAttr,d1,h7,gr,xp,xk,xt,Bool.not_true,Za,Zt,Zn]
   exact ih
  | false =>
   have ek:Z1 true t f.cols r=some (ZD t f.cols r):=by simp [Z1,hv]
   rw [ek] at e0
   simp only at e0
   rw [hv] at xp
   have hw0:w=0∨w=1∨w=2:=by omega
   rcases hw0 with hw0 | hw0 | hw0
   ·subst hw0
    have ek:ZF x ds f.tb=D0.rows.map (ZD t0 t0.key):=by
     simp only [ZF,hw,Int.toNat_natCast,ht0,hd0]
    obtain ⟨a1,a2⟩:=J3 s0 (ZD t f.cols r)
    rw [←ek] at a1 a2
    by_cases hmm:ZD t f.cols r∈ZF x ds f.tb
    ·obtain ⟨i0,hf⟩:=a1 hmm
     rw [if_pos hmm] at e0
     simp only [e0]
     simp only [Za,Zt] at ih ⊢
     unfold Zf at hB
     simp -implicitDefEqProofs only [go_sem,simprocAttr,Tryz.f52,Zb] at hB
     subst hB
     rw [Zc]
     simp -implicitDefEqProofs only [go_sem,simprocAttr,d1,h7,gr,xp,xk,xt,hf,Bool.not_false,Za,Zt,Zn]
     exact ih
    ·have hf:=a2 hmm
     rw [if_neg hmm] at e0
     simp only [e0,show ¬((11:Int)=0) by decide,if_false]
     simp only [Za,Zt]
     unfold Zf at hB
     simp -implicitDefEqProofs only [go_sem,simprocAttr,Tryz.f52,Zb] at hB
     subst hB
     rw [Zc]
     simp -implicitDefEqProofs only [go_sem,simprocAttr,d1,h7,gr,xp,xk,xt,hf,Bool.not_false,Za,Zt,Zn]
   ·subst hw0
    have ek:ZF x ds f.tb=D1.rows.map (ZD t1 t1.key):=by
     simp only [ZF,hw,Int.toNat_natCast,ht1,hd1]
    obtain ⟨a1,a2⟩:=J3 s1 (ZD t f.cols r)
    rw [←ek] at a1 a2
    by_cases hmm:ZD t f.cols r∈ZF x ds f.tb
    ·obtain ⟨i0,hf⟩:=a1 hmm
     rw [if_pos hmm] at e0
     simp only [e0]
     simp only [Za,Zt] at ih ⊢
     unfold Zf at hB
     simp -implicitDefEqProofs only [go_sem,simprocAttr,Tryz.f52,Zb] at hB
     subst hB
     rw [Zc]
     simp -implicitDefEqProofs only [go_sem,simprocAttr,d1,h7,gr,xp,xk,xt,hf,Bool.not_false,Za,Zt,Zn]
     exact ih
    ·have hf:=a2 hmm
     rw [if_neg hmm] at e0
     simp only [e0,show ¬((11:Int)=0) by decide,if_false]
     simp only [Za,Zt]
     unfold Zf at hB
     simp -implicitDefEqProofs only [go_sem,simprocAttr,Tryz.f52,Zb] at hB
     subst hB
     rw [Zc]
     simp -implicitDefEqProofs only [go_sem,simprocAttr,d1,h7,gr,xp,xk,xt,hf,Bool.not_false,Za,Zt,Zn]
   ·subst hw0
    have ek:ZF x ds f.tb=D2.rows.map (ZD t2 t2.key):=by
     simp only [ZF,hw,Int.toNat_natCast,ht2,hd2]
    obtain ⟨a1,a2⟩:=J3 s2 (ZD t f.cols r)
    rw [←ek] at a1 a2
    by_cases hmm:ZD t f.cols r∈ZF x ds f.tb
    ·obtain ⟨i0,hf⟩:=a1 hmm
     rw [if_pos hmm] at e0
     simp only [e0]
     simp only [Za,Zt] at ih ⊢
     unfold Zf at hB
     simp -implicitDefEqProofs only [go_sem,simprocAttr,Tryz.f52,Zb] at hB
     subst hB
     rw [Zc]
     simp -implicitDefEqProofs only [go_sem,simprocAttr,d1,h7,gr,xp,xk,xt,hf,Bool.not_false,Za,Zt,Zn]
     exact ih
    ·have hf:=a2 hmm
     rw [if_neg hmm] at e0
     simp only [e0,show ¬((11:Int)=0) by decide,if_false]
     simp only [Za,Zt]
     unfold Zf at hB
     simp -implicitDefEqProofs only [go_sem,simprocAttr,Tryz.f52,Zb] at hB
     subst hB
     rw [Zc]
     simp -implicitDefEqProofs only [go_sem,simprocAttr,d1,h7,gr,xp,xk,xt,hf,Bool.not_false,Za,Zt,Zn]
theorem ZmV (x:List Tbl) (ds:List Dat) (h:Led x ds) (hm:x.length=3) (t0 t1 t2:Tbl) (D0 D1 D2:Dat) (E0 E1 E2:List (AV×AV)) (ht0:x[0]? = some t0) (hd0:ds[0]? = some D0) (s0:SetM E0 (D0.rows.map (ZD t0 t0.key))) (ht1:x[1]? = some t1) (hd1:ds[1]? = some D1) (s1:SetM E1 (D1.rows.map (ZD t1 t1.key))) (ht2:x[2]? = some t2) (hd2:ds[2]? = some D2) (s2:SetM E2 (D2.rows.map (ZD t2 t2.key))) (i:Nat) (t:Tbl) (d:Dat) (hi:x[i]? = some t) (hd:ds[i]? = some d) (ks:List It) :
  ∀ (q j:Nat) (jj:Int) (Bo:Code),Zf Tryz.f52 6 Bo→jj=(j:Int)→t.fgn.length=j+q →
  RL K (.run 52 0 (.code Bo::.lp Bo (some ([2,3,5,12,13,64,65,66,72,73,74],[])) 10::.blk 6 10::ks) [(2,.ptr 0 0),(3,.ptr 1 0),(5,.own 2 3),(12,I (i:Int)),(13,.ptr 9 0),(64,.rows (x.map Za)),(65,I 3),(66,I (i:Int)),(72,.rows (t.fgn.map Zt)),(73,I (t.fgn.length:Int)),(74,I jj)] [.cells [.rows (x.map Za)],.cells [.rows (ds.map Zh)],.rows 1 [[.mp 4],[.mp 6],[.mp 8]] true,.cells (Za t0),.map E0,.cells (Za t1),.map E1,.cells (Za t2),.map E2,.cells (Za t)]) =
  if YI x ds t d.rows (t.fgn.drop j)=0 then R K (.run 52 0 ks [(2,.ptr 0 0),(3,.ptr 1 0),(5,.own 2 3),(64,.rows (x.map Za)),(65,I 3),(66,I (i:Int))] [.cells [.rows (x.map Za)],.cells [.rows (ds.map Zh)],.rows 1 [[.mp 4],[.mp 6],[.mp 8]] true,.cells (Za t0),.map E0,.cells (Za t1),.map E1,.cells (Za t2),.map E2,.cells (Za t)]) else some (I (YI x ds t d.rows (t.fgn.drop j)),[])
 | 0,j,jj,Bo,hB,hj,hq=>by
  have d1:¬(j:Int) < (t.fgn.length:Int):=by omega
  subst hj
  rw [List.drop_of_length_le (by omega),if_pos (show YI x ds t d.rows []=0 from rfl)]
  unfold Zf at hB
  simp -implicitDefEqProofs only [go_sem,simprocAttr,Tryz.f52,Zb] at hB
  subst hB
  rw [Zc]
  simp -implicitDefEqProofs only [go_sem,simprocAttr,d1,Za]
 | q+1,j,jj,Bo,hB,hj,hq=>by
  have hB':=hB
  have mt:=List.mem_of_getElem? hi
  have tfl:=(h.fit.tbl t mt).fgn
  have d1:(j:Int) < (t.fgn.length:Int):=by omega
  have h7:=Zs (i:=j) (n:=t.fgn.length) (by omega) (by omega)
  obtain ⟨f,hf⟩:=Ze (l:=t.fgn) (i:=j) (by omega)
  have gf:=Xz hf
  have gd:=YE hd
  have l8:=fun ks B hB=>Zmd x ds h hm t0 t1 t2 D0 D1 D2 E0 E1 E2 ht0 hd0 s0 ht1 hd1 s1 ht2 hd2 s2 i t d hi hd f (List.mem_of_getElem? hf) (j:Int) ks d.rows.length 0 0 B hB rfl (by omega)
  rw [List.drop_zero] at l8
  have ih:=ZmV x ds h hm t0 t1 t2 D0 D1 D2 E0 E1 E2 ht0 hd0 s0 ht1 hd1 s1 ht2 hd2 s2 i t d hi hd ks q (j+1) _ Bo hB' rfl (by omega)
  have e0:YI x ds t d.rows (t.fgn.drop j)=if XA (Z1 true t f.cols) (ZF x ds f.tb) d.rows=0 then YI x ds t d.rows (t.fgn.drop (j+1)) else XA (Z1 true t f.cols) (ZF x ds f.tb) d.rows:=by
   rw [ZE hf]
   rfl
  subst hj
  simp only [Zt] at gf
  simp only [Zh] at gd
  by_cases h0:XA (Z1 true t f.cols) (ZF x ds f.tb) d.rows=0
  ·rw [if_pos h0] at e0
   simp only [h0,if_true] at l8
   simp only [e0]
   simp only [Za,Zt] at l8 ih ⊢
   unfold Zf at hB
   simp -implicitDefEqProofs only [go_sem,simprocAttr,Tryz.f52,Zb] at hB
   subst hB
   rw [Zc]
   simp -implicitDefEqProofs only [go_sem,simprocAttr,d1,h7,gf,gd,Za,Zt,Zh,List.length_map]
   rw [l8 _ _ (by rfl)]
   simp -implicitDefEqProofs only [go_sem,simprocAttr,h7,Za,Zt,List.length_map]
   exact ih
  ·rw [if_neg h0] at e0
   simp only [h0,if_false] at l8
   simp only [e0,h0,if_false]
   simp only [Za,Zt] at l8 ⊢
   unfold Zf at hB
   simp -implicitDefEqProofs only [go_sem,simprocAttr,Tryz.f52,Zb] at hB
   subst hB
   rw [Zc]
   simp -implicitDefEqProofs only [go_sem,simprocAttr,d1,h7,gf,gd,Za,Zt,Zh,List.length_map]
   rw [l8 _ _ (by rfl)]
theorem Zmk (x:List Tbl) (ds:List Dat) (h:Led x ds) (hm:x.length=3) (t0 t1 t2:Tbl) (D0 D1 D2:Dat) (E0 E1 E2:List (AV×AV)) (ht0:x[0]? = some t0) (hd0:ds[0]? = some D0) (s0:SetM E0 (D0.rows.map (ZD t0 t0.key))) (ht1:x[1]? = some t1) (hd1:ds[1]? = some D1) (s1:SetM E1 (D1.rows.map (ZD t1 t1.key))) (ht2:x[2]? = some t2) (hd2:ds[2]? = some D2) (s2:SetM E2 (D2.rows.map (ZD t2 t2.key))) (ks:List It):∀ (q i:Nat) (ii:Int) (Bo:Code),Zf Tryz.f52 4 Bo→ii=(i:Int)→x.length=i+q →
  RL K (.run 52 0 (.code Bo::.lp Bo (some ([2,3,5,64,65,66],[])) 9::.blk 4 9::ks) [(2,.ptr 0 0),(3,.ptr 1 0),(5,.own 2 3),(64,.rows (x.map Za)),(65,I 3),(66,I ii)] [.cells [.rows (x.map Za)],.cells [.rows (ds.map Zh)],.rows 1 [[.mp 4],[.mp 6],[.mp 8]] true,.cells (Za t0),.map E0,.cells (Za t1),.map E1,.cells (Za t2),.map E2]) =
  if evE (Yl x ds) i q=0 then R K (.run 52 0 ks [] [.cells [.rows (x.map Za)],.cells [.rows (ds.map Zh)],.rows 1 [[.mp 4],[.mp 6],[.mp 8]] true,.cells (Za t0),.map E0,.cells (Za t1),.map E1,.cells (Za t2),.map E2]) else some (I (evE (Yl x ds) i q),[])
 | 0,i,ii,Bo,hB,hi,hq=>by
  have d1:¬(i:Int) < 3:=by omega
  subst hi
  rw [if_pos (show evE (Yl x ds) i 0=0 from rfl)]
  unfold Zf at hB
  simp -implicitDefEqProofs only [go_sem,simprocAttr,Tryz.f52,Zb] at hB
  subst hB
  rw [Zc]
  simp -implicitDefEqProofs only [go_sem,simprocAttr,d1,Za]
 | q+1,i,ii,Bo,hB,hi,hq=>by
  have hB':=hB
  have d1:(i:Int) < 3:=by omega
  have h7:=Zs (i:=i) (n:=x.length) (by omega) (by omega)
  have hdl:=h.ok.len
  obtain ⟨t,ht⟩:=Ze (l:=x) (i:=i) (by omega)
  obtain ⟨d,hd⟩:=Ze (l:=ds) (i:=i) (by omega)
  have gt:=ZG ht
  have l6:=fun ks B hB=>ZmV x ds h hm t0 t1 t2 D0 D1 D2 E0 E1 E2 ht0 hd0 s0 ht1 hd1 s1 ht2 hd2 s2 i t d ht hd ks t.fgn.length 0 0 B hB rfl (by omega)
  rw [List.drop_zero] at l6
  have ih:=Zmk x ds h hm t0 t1 t2 D0 D1 D2 E0 E1 E2 ht0 hd0 s0 ht1 hd1 s1 ht2 hd2 s2 ks q (i+1) _ Bo hB' rfl (by omega)
  have ea:Yl x ds i=YI x ds t d.rows t.fgn:=by simp only [Yl,ht,hd]
  subst hi
  simp only [evE,ea]
  by_cases h0:YI x ds t d.rows t.fgn=0
  ·simp only [h0,if_true] at l6 ⊢
   simp only [Za] at l6 gt ih ⊢
   unfold Zf at hB
   simp -implicitDefEqProofs only [go_sem,simprocAttr,Tryz.f52,Zb] at hB
   subst hB
   rw [Zc]
   simp -implicitDefEqProofs only [go_sem,simprocAttr,d1,h7,gt,Za,List.length_map]
   rw [l6 _ _ (by rfl)]
   simp -implicitDefEqProofs only [go_sem,simprocAttr,h7,Za,List.length_map]
   exact ih
  ·simp only [h0,if_false] at l6 ⊢
   simp only [Za] at l6 gt ⊢
   unfold Zf at hB
   simp -implicitDefEqProofs only [go_sem,simprocAttr,Tryz.f52,Zb] at hB
   subst hB
   rw [Zc]
   simp -implicitDefEqProofs only [go_sem,simprocAttr,d1,h7,gt,Za,List.length_map]
   rw [l6 _ _ (by rfl)]
theorem Zgj (x:List Tbl) (ds:List Dat) (h:Led x ds) (hm:x.length=3):R K (.call 52 [WI x,YF ds] [])=some (I (Wm x ds),[]):=by
 have hmi:((x.length:Nat):Int)=3:=by omega
 have hdl:=h.ok.len
 obtain ⟨t0,ht0⟩:=Ze (l:=x) (i:=0) (by omega)
 obtain ⟨D0,hd0⟩:=Ze (l:=ds) (i:=0) (by omega)
 have gt0:at? (x.map Za) 0=some (Za t0):=ZG ht0
 have gd0:at? (ds.map Zh) 0=some (Zh D0):=YE hd0
 have mt0:=List.mem_of_getElem? ht0
 obtain ⟨E0,s0,l0⟩:=Zi7 x ds t0  (h.fit.tbl t0 mt0).cols (h.fit.tbl t0 mt0).key (h.right.ok t0 mt0).key D0.rows (h.ok.fit 0 t0 D0 ht0 hd0) (h.few.rows D0 (List.mem_of_getElem? hd0)).1 D0.rows.length 0 [] [] (by omega) SetM.nil
 rw [List.drop_zero,List.append_nil] at s0
 have l0:=fun ks B hB=>l0 ks 0 B hB rfl
 obtain ⟨t1,ht1⟩:=Ze (l:=x) (i:=1) (by omega)
 obtain ⟨D1,hd1⟩:=Ze (l:=ds) (i:=1) (by omega)
 have gt1:at? (x.map Za) 1=some (Za t1):=ZG ht1
 have gd1:at? (ds.map Zh) 1=some (Zh D1):=YE hd1
 have mt1:=List.mem_of_getElem? ht1
 obtain ⟨E1,s1,l1⟩:=Zja x ds t0 t1 E0 (h.fit.tbl t1 mt1).cols (h.fit.tbl t1 mt1).key (h.right.ok t1 mt1).key D1.rows (h.ok.fit 1 t1 D1 ht1 hd1) (h.few.rows D1 (List.mem_of_getElem? hd1)).1 D1.rows.length 0 [] [] (by omega) SetM.nil
 rw [List.drop_zero,List.append_nil] at s1
 have l1:=fun ks B hB=>l1 ks 0 B hB rfl
 obtain ⟨t2,ht2⟩:=Ze (l:=x) (i:=2) (by omega)
 obtain ⟨D2,hd2⟩:=Ze (l:=ds) (i:=2) (by omega)
 have gt2:at? (x.map Za) 2=some (Za t2):=ZG ht2
 have gd2:at? (ds.map Zh) 2=some (Zh D2):=YE hd2
 have mt2:=List.mem_of_getElem? ht2
 obtain ⟨E2,s2,l2⟩:=ZjW x ds t0 t1 t2 E0 E1 (h.fit.tbl t2 mt2).cols (h.fit.tbl t2 mt2).key (h.right.ok t2 mt2).key D2.rows (h.ok.fit 2 t2 D2 ht2 hd2) (h.few.rows D2 (List.mem_of_getElem? hd2)).1 D2.rows.length 0 [] [] (by omega) SetM.nil
 rw [List.drop_zero,List.append_nil] at s2
 have l2:=fun ks B hB=>l2 ks 0 B hB rfl
 have l4:=fun ks B hB=>Zmk x ds h hm t0 t1 t2 D0 D1 D2 E0 E1 E2 ht0 hd0 s0 ht1 hd1 s1 ht2 hd2 s2 ks x.length 0 0 B hB rfl (by omega)
 have er:evE (Yl x ds) 0 x.length=Wm x ds:=rfl
 rw [er] at l4
 simp only [Za] at l4 l0 gt0 l1 gt1 l2 gt2
 simp only [Zh] at gd0 gd1 gd2
 by_cases h0:Wm x ds=0
 ·simp only [h0,if_true] at l4 ⊢
  rw [Zbt]
  simp -implicitDefEqProofs only [go_sem,simprocAttr,Tryz.f52,Yq,hmi,gt0,gd0,gt1,gd1,gt2,gd2,Za,Zh,List.length_map]
  rw [Zc]
  simp -implicitDefEqProofs only [go_sem,simprocAttr,Yq,hmi,gt0,gd0,gt1,gd1,gt2,gd2,Za,Zh,List.length_map]
  rw [l0 _ _ (by rfl)]
  simp -implicitDefEqProofs only [go_sem,simprocAttr,Yq,hmi,gt0,gd0,gt1,gd1,gt2,gd2,Za,Zh,List.length_map]
  rw [Zc]
  simp -implicitDefEqProofs only [go_sem,simprocAttr,Yq,hmi,gt0,gd0,gt1,gd1,gt2,gd2,Za,Zh,List.length_map]
  rw [l1 _ _ (by rfl)]
  simp -implicitDefEqProofs only [go_sem,simprocAttr,Yq,hmi,gt0,gd0,gt1,gd1,gt2,gd2,Za,Zh,List.length_map]
  rw [Zc]
  simp -implicitDefEqProofs only [go_sem,simprocAttr,Yq,hmi,gt0,gd0,gt1,gd1,gt2,gd2,Za,Zh,List.length_map]
  rw [l2 _ _ (by rfl)]
  simp -implicitDefEqProofs only [go_sem,simprocAttr,Yq,hmi,gt0,gd0,gt1,gd1,gt2,gd2,Za,Zh,List.length_map]
  rw [Zc]
  simp -implicitDefEqProofs only [go_sem,simprocAttr,Yq,hmi,gt0,gd0,gt1,gd1,gt2,gd2,Za,Zh,List.length_map]
  rw [l4 _ _ (by rfl)]
  simp -implicitDefEqProofs only [go_sem,simprocAttr,Za]
 ·simp only [h0,if_false] at l4
  rw [Zbt]
  simp -implicitDefEqProofs only [go_sem,simprocAttr,Tryz.f52,Yq,hmi,gt0,gd0,gt1,gd1,gt2,gd2,Za,Zh,List.length_map]
  rw [Zc]
  simp -implicitDefEqProofs only [go_sem,simprocAttr,Yq,hmi,gt0,gd0,gt1,gd1,gt2,gd2,Za,Zh,List.length_map]
  rw [l0 _ _ (by rfl)]
  simp -implicitDefEqProofs only [go_sem,simprocAttr,Yq,hmi,gt0,gd0,gt1,gd1,gt2,gd2,Za,Zh,List.length_map]
  rw [Zc]
  simp -implicitDefEqProofs only [go_sem,simprocAttr,Yq,hmi,gt0,gd0,gt1,gd1,gt2,gd2,Za,Zh,List.length_map]
  rw [l1 _ _ (by rfl)]
  simp -implicitDefEqProofs only [go_sem,simprocAttr,Yq,hmi,gt0,gd0,gt1,gd1,gt2,gd2,Za,Zh,List.length_map]
  rw [Zc]
  simp -implicitDefEqProofs only [go_sem,simprocAttr,Yq,hmi,gt0,gd0,gt1,gd1,gt2,gd2,Za,Zh,List.length_map]
  rw [l2 _ _ (by rfl)]
  simp -implicitDefEqProofs only [go_sem,simprocAttr,Yq,hmi,gt0,gd0,gt1,gd1,gt2,gd2,Za,Zh,List.length_map]
  rw [Zc]
  simp -implicitDefEqProofs only [go_sem,simprocAttr,Yq,hmi,gt0,gd0,gt1,gd1,gt2,gd2,Za,Zh,List.length_map]
  rw [l4 _ _ (by rfl)]
theorem Zea (x:List Tbl) (ds:List Dat) (h:Led x ds) (h1:1≤x.length) (h3:x.length≤3):R K (.call 52 [WI x,YF ds] [])=some (I (Wm x ds),[]):=by
 rcases (show x.length=1∨x.length=2∨x.length=3 by omega) with hm | hm | hm
 ·exact Zgl x ds h hm
 ·exact Zgf x ds h hm
 ·exact Zgj x ds h hm
theorem Zjd (t:Tbl) (ht:t.cols.length≤1000000) (hk:t.key.length≤1000000) (hK:Zr t t.key) (hN:t.idx.length≤1000000∧∀ y∈t.idx,Zr t y.cols∧y.cols.length≤1000000) (rs:List (List Val)) (hrs:ZK t rs) (hl:rs.length≤1000000) :
  ∃ e,R K (.call 100 [ZX t,.rows (rs.map Zn)] [])=some (I e,[]):=⟨_,Zd3 t ht hk hK hN rs hrs hl⟩
theorem ZjS (x:List Tbl) (ds:List Dat) (h:Led x ds) (h1:1≤x.length) (h3:x.length≤3):∃ e,R K (.call 52 [WI x,YF ds] [])=some (I e,[]):=⟨_,Zea x ds h h1 h3⟩
theorem Zrm {t:Tbl} {l:List (List UInt8)} (h:∀ n∈l,n∈t.cols.map (·.nm)):Zr t l:=fun n hn hlt=>by
 rcases J7 n (t.cols.map (·.nm)) 0 with h1 | h1
 ·exact (W2 n (t.cols.map (·.nm)) 0).1 h1 (h n hn)
 ·omega
theorem MadeX.idxIn {x:List Tbl} (h:MadeX x):∀ t∈x,∀ y∈t.idx,Zr t y.cols:=fun t ht y hy=>Zrm (h.idx t ht y hy)
theorem MadeX.noted {x:List Tbl} (h:MadeX x) {u:Tbl} (mu:u∈x) {r:List Val} (hr:r.length=u.cols.length):Noted x u r:=by
 have s:=h.sz.tbl u mu
 refine ⟨by have:=s.cl;omega,hr,⟨(h.right.ok u mu).key,by have:=s.key;omega⟩,⟨by have:=s.il;omega,fun y hy=>⟨h.idxIn u mu y hy,by have:=(s.ix y hy).2;omega,by have:=(s.ix y hy).1;omega⟩⟩,⟨by have:=s.fl;omega,fun f hf=>⟨(h.right.ok u mu).fg f hf,by have:=(s.fg f hf).2;omega,?_⟩⟩⟩
 have h1:=h.right.leads u mu f hf
 have h2:f.tb∈x.map (·.nm):=by
  by_cases hm:f.tb∈x.map (·.nm)
  ·exact hm
  ·exact absurd ((W2 f.tb (x.map (·.nm)) 0).2 hm) (fun e=>h1 (by omega))
 obtain ⟨v,mv,e⟩:=List.mem_map.1 h2
 rw [←e]
 have:=(h.sz.tbl v mv).nm
 omega
theorem Led.more {x:List Tbl} {ds:List Dat} (h:Led x ds) {nm:List UInt8} {w:Nat} {u:Tbl} {d:Dat} (hs:Seen x ds nm w u d) {r:List Val} (hr:r.length=u.cols.length) (hl:r.length≤1000000) (hn:d.rows.length≤100000) {rs:List (List Val)} (m:Shuf (d.rows++[r]) rs):Led x (ds.set w ⟨d.nm,rs⟩):=by
 have hwl:=(List.getElem?_eq_some_iff.1 hs.da).1
 have ml:=m.1
 rw [List.length_append,List.length_cons,List.length_nil] at ml
 refine ⟨h.fit,h.right,h.idx,⟨?_,fun i t d' hi hd=>?_⟩,⟨by rw [List.length_set];exact h.few.len,fun d' hd=>?_⟩⟩
 ·rw [h.ok.nm]
  refine List.ext_getElem? fun i=>?_
  rw [List.getElem?_map,List.getElem?_map,List.getElem?_set]
  by_cases e:w=i
  ·subst e
   rw [if_pos rfl,if_pos hwl,hs.da]
   rfl
  ·rw [if_neg e]
 ·rw [List.getElem?_set] at hd
  by_cases e:w=i
  ·subst e
   rw [if_pos rfl,if_pos hwl] at hd
   obtain rfl:=Option.some.inj hd
   rw [hs.tb] at hi
   obtain rfl:=Option.some.inj hi
   intro o ho
   rcases List.mem_append.1 (m.2 o ho) with h1 | h1
   ·exact h.ok.fit w u d hs.tb hs.da o h1
   ·rw [List.mem_singleton] at h1;rw [h1];exact hr
  ·rw [if_neg e] at hd
   exact h.ok.fit i t d' hi hd
 ·rcases List.mem_or_eq_of_mem_set hd with h1 | h1
  ·exact h.few.rows d' h1
  ·subst h1
   refine ⟨by show rs.length≤_;omega,fun o ho=>?_⟩
   rcases List.mem_append.1 (m.2 o ho) with h1 | h1
   ·exact (h.few.rows d (List.mem_of_getElem? hs.da)).2 o h1
   ·rw [List.mem_singleton] at h1;rw [h1];exact hl
theorem ZtF (x:List Tbl) (ds dn:List Dat) (es:List (AV×AV)) (hn:dn.length≤1000000) (hb:∀ d∈dn,d.rows.length≤5000) (ks:List It) :
  ∀ (q j:Nat) (jj:Int) (Bo:Code),Zf Tryz.f109 0 Bo→jj=(j:Int)→dn.length=j+q →
  RL K (.run 109 3 (.code Bo::.lp Bo (some ([0,6,37,38,39],[])) 4::.blk 0 4::ks) [(0,.ptr 0 0),(6,.ptr 3 0),(37,.rows (dn.map Zh)),(38,I (dn.length:Int)),(39,I jj)] (txH x ds es++[.cells [.rows (dn.map Zh)]])) =
  R K (.run 109 3 ks [(0,.ptr 0 0),(6,.ptr 3 0)] (txH x ds es++[.cells [.rows (dn.map Zh)]]))
 | 0,j,jj,Bo,hB,hj,hq=>by
  subst hj
  have d:¬(j:Int) < (dn.length:Int):=by omega
  simp only [txH,txC,List.cons_append,List.nil_append]
  unfold Zf at hB
  simp -implicitDefEqProofs only [go_sem,simprocAttr,Tryz.f109,Zb] at hB
  subst hB
  rw [Zc]
  simp -implicitDefEqProofs only [go_sem,simprocAttr,d]
 | q+1,j,jj,Bo,hB,hj,hq=>by
  subst hj
  have hB':=hB
  have d:(j:Int) < (dn.length:Int):=by omega
  have h7:=Zs (i:=j) (n:=dn.length) (by omega) (by omega)
  obtain ⟨a,ha⟩:=Ze (l:=dn) (i:=j) (by omega)
  have ga:=YE ha
  have hal:=hb a (List.mem_of_getElem? ha)
  have d2:¬(5000:Int) < (a.rows.length:Int):=by omega
  have ih:=ZtF x ds dn es hn hb ks q (j+1) _ Bo hB' rfl (by omega)
  simp only [Zh] at ga
  simp only [txH,txC,List.cons_append,List.nil_append] at ih ⊢
  unfold Zf at hB
  simp -implicitDefEqProofs only [go_sem,simprocAttr,Tryz.f109,Zb] at hB
  subst hB
  rw [Zc]
  simp -implicitDefEqProofs only [go_sem,simprocAttr,d,h7,ga,d2,Zh,List.length_map]
  exact ih
theorem ZtR (x:List Tbl) (ds dn:List Dat) (es:List (AV×AV)) (h:Led x dn) :
  ∀ (q j:Nat),x.length=j+q→∃ o:Option Int,∀ (ks:List It) (jj:Int) (Bo:Code),Zf Tryz.f109 2 Bo→jj=(j:Int) →
  RL K (.run 109 3 (.code Bo::.lp Bo (some ([0,6,52,53,54],[])) 4::.blk 2 4::ks) [(0,.ptr 0 0),(6,.ptr 3 0),(52,.rows (x.map Za)),(53,I (x.length:Int)),(54,I jj)] (txH x ds es++[.cells [.rows (dn.map Zh)]])) =
  match o with
  | some e=>some (I e,txH x ds es)
  | none=>R K (.run 109 3 ks [(0,.ptr 0 0),(6,.ptr 3 0)] (txH x ds es++[.cells [.rows (dn.map Zh)]]))
 | 0,j,hq=>by
  have d:¬(j:Int) < (x.length:Int):=by omega
  refine ⟨none,fun ks jj Bo hB hj=>?_⟩
  subst hj
  simp only [txH,txC,List.cons_append,List.nil_append]
  unfold Zf at hB
  simp -implicitDefEqProofs only [go_sem,simprocAttr,Tryz.f109,Zb] at hB
  subst hB
  rw [Zc]
  simp -implicitDefEqProofs only [go_sem,simprocAttr,d]
 | q+1,j,hq=>by
  have d:(j:Int) < (x.length:Int):=by omega
  have hxl:=h.fit.len
  have hdl:=h.ok.len
  have h7:=Zs (i:=j) (n:=x.length) (by omega) (by omega)
  obtain ⟨t,ht⟩:=Ze (l:=x) (i:=j) (by omega)
  obtain ⟨a,ha⟩:=Ze (l:=dn) (i:=j) (by omega)
  have gt:=ZG ht
  have ga:=YE ha
  have mt:=List.mem_of_getElem? ht
  have ft:=h.fit.tbl t mt
  obtain ⟨e,xk⟩:=Zjd t ft.cols ft.key (h.right.ok t mt).key ⟨ft.idx,fun y hy=>⟨h.idx t mt y hy,(ft.ix y hy).2⟩⟩ a.rows (h.ok.fit j t a ht ha) (h.few.rows a (List.mem_of_getElem? ha)).1
  simp only [Zh] at ga
  simp only [ZX,Za] at gt xk
  by_cases h0:e=0
  ·subst h0
   obtain ⟨o,ih⟩:=ZtR x ds dn es h q (j+1) (by omega)
   refine ⟨o,fun ks jj Bo hB hj=>?_⟩
   subst hj
   have ih:=ih ks _ Bo hB rfl
   simp only [txH,txC,List.cons_append,List.nil_append] at ih ⊢
   unfold Zf at hB
   simp -implicitDefEqProofs only [go_sem,simprocAttr,Tryz.f109,Zb] at hB
   subst hB
   rw [Zc]
   simp -implicitDefEqProofs only [go_sem,simprocAttr,d,h7,gt,ga,xk,bne,beq_self_eq_true,Zh,Za,List.length_map]
   exact ih
  ·have b0:(e==0)=false:=by simpa using h0
   refine ⟨some e,fun ks jj Bo hB hj=>?_⟩
   subst hj
   simp only [txH,txC,List.cons_append,List.nil_append]
   unfold Zf at hB
   simp -implicitDefEqProofs only [go_sem,simprocAttr,Tryz.f109,Zb] at hB
   subst hB
   rw [Zc]
   simp -implicitDefEqProofs only [go_sem,simprocAttr,d,h7,gt,ga,xk,bne,b0,Zh,Za,List.length_map]
theorem ZsR (x:List Tbl) (hx:MadeX x) (ds:List Dat) (hL:Led x ds) (es:List (AV×AV)) (hS:SetE es) {nm:List UInt8} {w:Nat} {u:Tbl} {d:Dat} (h:Seen x ds nm w u d) (hnm:nm.length≤100000) (hb:∀ d∈ds,d.rows.length≤18) (r:List Val) (hrl:r.length≤1000000) :
  ∃ (e:Int) (es':List (AV×AV)) (ds':List Dat),SetE es'∧(ds'=ds∨∃ rs,Shuf (d.rows++[r]) rs∧r.length=u.cols.length∧ds'=ds.set w ⟨d.nm,rs⟩) ∧
  R K (.call 109 [.ptr 0 0,.rows [chC nm r]] (txH x ds es))=some (I e,txH x ds' es'):=by
 have mu:=List.mem_of_getElem? h.tb
 have md:=List.mem_of_getElem? h.da
 have su:=hx.sz.tbl u mu
 have ucl:=su.cl
 have uc1:=su.c1
 have ukl:=su.key
 have hxl:=hL.fit.len
 have hdl:=hL.ok.len
 have x1:=hx.sz.l1
 have x3:=hx.sz.l3
 have xf:=Zp3 x ds es hxl h (by omega) r hrl
 by_cases h0:Q4 true u r=0
 ·have b0:(Q4 true u r==0)=true:=by simpa using h0
  have hr:r.length=u.cols.length:=by
   unfold Q4 at h0
   split at h0
   ·assumption
   ·simp at h0
  rw [h0] at xf
  obtain ⟨es1,s1,xn⟩:=Zup x ds es hS hxl hnm h r (hx.noted mu hr)
  have hdb:=hb d md
  obtain ⟨rs,m,xm⟩:=ZrV x ds es1 hxl (by omega) (by omega) hnm h (fun d hd=>by have:=hb d hd;omega) (by omega) (by omega) (hL.right.ok u mu).key (by omega) (hL.ok.fit w u d h.tb h.da) r (by omega) hr
  have hL':=hL.more h hr hrl (by omega) m
  have hb':∀ d'∈ds.set w ⟨d.nm,rs⟩,d'.rows.length≤5000:=fun d' hd=>by
   rcases List.mem_or_eq_of_mem_set hd with h1 | h1
   ·have:=hb d' h1;omega
   ·subst h1
    have:=m.1
    rw [List.length_append,List.length_cons,List.length_nil] at this
    show rs.length≤5000
    omega
  have key:∀ dn,Led x dn→(∀ d'∈dn,d'.rows.length≤5000)→R K (.call 198 [.ptr 0 0,.rows [chC nm r]] (txH x ds es1))=some (.tup [YF dn,I 0],txH x ds es1) →
    ∃ (e:Int) (b:Bool),R K (.call 109 [.ptr 0 0,.rows [chC nm r]] (txH x ds es))=some (I e,txH x (if b=true then dn else ds) es1):=by
   intro dn hn hbn xm
   have l0:=fun ks B hB=>ZtF x ds dn es1 hn.few.len hbn ks dn.length 0 0 B hB rfl (by omega)
   obtain ⟨o,l2⟩:=ZtR x ds dn es1 hn x.length 0 (by omega)
   have l2:=fun ks B hB=>l2 ks 0 B hB rfl
   obtain ⟨e,xr⟩:=ZjS x dn hn x1 x3
   cases o with
   | some e =>
    refine ⟨e,false,?_⟩
    simp only [txH,txC,chC,WI,YF,List.cons_append,List.nil_append,Bool.false_eq_true,if_false] at xf xn xm l0 l2 ⊢
    rw [Zcp]
    simp -implicitDefEqProofs only [go_sem,simprocAttr,Tryz.f109,xf,xn,xm,bne,beq_self_eq_true,List.length_map]
    rw [l0 _ _ (by rfl)]
    simp -implicitDefEqProofs only [go_sem,simprocAttr,List.length_map]
    rw [l2 _ _ (by rfl)]
   | none =>
    by_cases e0:e=0
    ·subst e0
     refine ⟨0,true,?_⟩
     simp only [txH,txC,chC,WI,YF,List.cons_append,List.nil_append,if_true] at xf xn xm xr l0 l2 ⊢
     rw [Zcp]
     simp -implicitDefEqProofs only [go_sem,simprocAttr,Tryz.f109,xf,xn,xm,bne,beq_self_eq_true,List.length_map]
     rw [l0 _ _ (by rfl)]
     simp -implicitDefEqProofs only [go_sem,simprocAttr,List.length_map]
     rw [l2 _ _ (by rfl)]
     simp -implicitDefEqProofs only [go_sem,simprocAttr,xr,bne,beq_self_eq_true]
    ·have b1:(e==0)=false:=by simpa using e0
     refine ⟨e,false,?_⟩
     simp only [txH,txC,chC,WI,YF,List.cons_append,List.nil_append,Bool.false_eq_true,if_false] at xf xn xm xr l0 l2 ⊢
     rw [Zcp]
     simp -implicitDefEqProofs only [go_sem,simprocAttr,Tryz.f109,xf,xn,xm,bne,beq_self_eq_true,List.length_map]
     rw [l0 _ _ (by rfl)]
     simp -implicitDefEqProofs only [go_sem,simprocAttr,List.length_map]
     rw [l2 _ _ (by rfl)]
     simp -implicitDefEqProofs only [go_sem,simprocAttr,xr,bne,b1]
  obtain ⟨e,b,key⟩:=key _ hL' hb' xm
  cases b with
  | true=>exact ⟨e,es1,_,s1,.inr ⟨rs,m,hr,rfl⟩,key⟩
  | false=>exact ⟨e,es1,_,s1,.inl rfl,key⟩
 ·have b0:(Q4 true u r==0)=false:=by simpa using h0
  refine ⟨Q4 true u r,es,ds,hS,.inl rfl,?_⟩
  simp only [txH,txC,chC] at xf ⊢
  rw [Zcp]
  simp -implicitDefEqProofs only [go_sem,simprocAttr,Tryz.f109,xf,bne,b0]
theorem Zpo (x:List Tbl) (hx:MadeX x) (ds:List Dat) (hL:Led x ds) (es:List (AV×AV)) (hS:SetE es) {nm:List UInt8} {w:Nat} {u:Tbl} {d:Dat} (h:Seen x ds nm w u d) (hnm:nm.length≤100000) (hb:∀ d∈ds,d.rows.length≤18) (r:List Val) (hrl:r.length≤1000000) :
  ∃ (e:Int) (es':List (AV×AV)) (ds':List Dat),SetE es'∧(ds'=ds∨∃ rs,Shuf (d.rows++[r]) rs∧r.length=u.cols.length∧ds'=ds.set w ⟨d.nm,rs⟩) ∧
  R K (.call 66 [.ptr 0 0,.agg (chC nm r)] (txH x ds es))=some (I e,txH x ds' es'):=by
 obtain ⟨e,es',ds',s',c,xb⟩:=ZsR x hx ds hL es hS h hnm hb r hrl
 have xs:=Zrv x ds es hL.fit.len h
 refine ⟨e,es',ds',s',c,?_⟩
 simp only [txH,txC,chC] at xb xs ⊢
 rw [ZsY]
 simp -implicitDefEqProofs only [go_sem,simprocAttr,Tryz.f66,xs,xb,bne,beq_self_eq_true,Za,Zh]
theorem ZpL (x:List Tbl) (hx:MadeX x) (ds:List Dat) (hL:Led x ds) (es:List (AV×AV)) (hS:SetE es) {nm:List UInt8} {w:Nat} {u:Tbl} {d:Dat} (h:Seen x ds nm w u d) (hnm:nm.length≤100000) (hb:∀ d∈ds,d.rows.length≤18) (r:List Val) (hrl:r.length≤1000000) :
  ∃ (e:Int) (es':List (AV×AV)) (ds':List Dat),SetE es'∧(ds'=ds∨∃ rs,Shuf (d.rows++[r]) rs∧r.length=u.cols.length∧ds'=ds.set w ⟨d.nm,rs⟩) ∧
  R K (.call 26 [.ptr 0 0,.str nm,vsA r] (txH x ds es))=some (I e,txH x ds' es'):=by
 obtain ⟨e,es',ds',s',c,xs⟩:=Zpo x hx ds hL es hS h hnm hb r hrl
 refine ⟨e,es',ds',s',c,?_⟩
 simp only [txH,txC,chC] at xs ⊢
 rw [ZrU]
 simp -implicitDefEqProofs only [go_sem,simprocAttr,Tryz.f26,xs]
theorem ZtW (x:List Tbl) (ds:List Dat) (hx:MadeX x):∀ (q j:Nat) (es:List (AV×AV)),x.length=j+q→SetE es→∃ es',SetE es'∧∀ (ks:List It) (jj:Int) (Bo:Code),Zf Tryz.f28 0 Bo→jj=(j:Int) →
  RL K (.run 28 3 (.code Bo::.lp Bo (some ([0,2,15,16,17],[])) 4::.blk 0 4::ks) [(0,.ptr 0 0),(2,.ptr 3 0),(15,.rows (x.map Za)),(16,I (x.length:Int)),(17,I jj)] (txH x ds es++[.cells [.nils]])) =
  R K (.run 28 3 ks [(0,.ptr 0 0),(2,.ptr 3 0)] (txH x ds es'++[.cells [.nils]]))
 | 0,j,es,hq,hS=>by
  have d:¬(j:Int) < (x.length:Int):=by omega
  refine ⟨es,hS,fun ks jj Bo hB hj=>?_⟩
  subst hj
  simp only [txH,txC,List.cons_append,List.nil_append]
  unfold Zf at hB
  simp -implicitDefEqProofs only [go_sem,simprocAttr,Tryz.f28,Zb] at hB
  subst hB
  rw [Zc]
  simp -implicitDefEqProofs only [go_sem,simprocAttr,d]
 | q+1,j,es,hq,hS=>by
  have d:(j:Int) < (x.length:Int):=by omega
  have hl3:=hx.sz.l3
  have h7:=Zs (i:=j) (n:=x.length) (by omega) (by omega)
  obtain ⟨t,ht⟩:=Ze (l:=x) (i:=j) (by omega)
  have gt:=ZG ht
  have hnm:=(hx.sz.tbl t (List.mem_of_getElem? ht)).nm
  obtain ⟨s,xm⟩:∃ s,R K (.call 68 [.str [116,97,98,108,101],.str t.nm,.str [],.rows []] [])=some (.str s,[]):=Jr [116,97,98,108,101] t.nm [] [] (by simp) (by omega) (by simp) (by simp)
  obtain ⟨v,hf,hS'⟩:=hS.put s
  obtain ⟨es',h',ih⟩:=ZtW x ds hx q (j+1) _ (by omega) hS'
  refine ⟨es',h',fun ks jj Bo hB hj=>?_⟩
  subst hj
  have ih:=ih ks _ Bo hB rfl
  simp only [Za] at gt
  simp only [txH,txC,List.cons_append,List.nil_append,YK] at ih ⊢
  unfold Zf at hB
  simp -implicitDefEqProofs only [go_sem,simprocAttr,Tryz.f28,Zb] at hB
  subst hB
  rw [Zc]
  simp -implicitDefEqProofs only [go_sem,simprocAttr,d,h7,gt,xm,hf,Za,List.length_map]
  exact ih
theorem Zoq (x:List Tbl) (ds:List Dat) (hx:MadeX x) (es:List (AV×AV)) (hS:SetE es):∃ es',SetE es'∧R K (.call 28 [.ptr 0 0] (txH x ds es))=some (.tup [YF ds,I 0],txH x ds es'):=by
 obtain ⟨es',s',l0⟩:=ZtW x ds hx x.length 0 es (by omega) hS
 have l0:=fun ks B hB=>l0 ks 0 B hB rfl
 refine ⟨es',s',?_⟩
 simp only [txH,txC,List.cons_append,List.nil_append] at l0 ⊢
 rw [ZsU]
 simp -implicitDefEqProofs only [go_sem,simprocAttr,Tryz.f28,List.length_map]
 rw [l0 _ _ (by rfl)]
 simp -implicitDefEqProofs only [go_sem,simprocAttr]
theorem ZsW {x:List Tbl} (h:RightX x) {w:Nat} {u:Tbl} (hu:x[w]? = some u):ixN u.nm (x.map (·.nm)) 0=(w:Int):=by
 have hm:u.nm∈x.map (·.nm):=List.mem_map.2 ⟨u,List.mem_of_getElem? hu,rfl⟩
 have h0:¬ixN u.nm (x.map (·.nm)) 0 < 0:=fun hlt=>by
  rcases J7 u.nm (x.map (·.nm)) 0 with h1 | h1
  ·exact (W2 u.nm (x.map (·.nm)) 0).1 h1 hm
  ·omega
 obtain ⟨b,c,e,hc⟩:=Zcx h0
 have h2:=(Zlv u.nm (x.map (·.nm)) 0 b e).2
 rw [Nat.sub_zero,List.getElem?_map,hc] at h2
 have h3:c.nm=u.nm:=by simpa using h2
 have lb:=(List.getElem?_eq_some_iff.1 hc).1
 have lw:=(List.getElem?_eq_some_iff.1 hu).1
 have:=h.inj b w lb lw (by simp [nmA,hc,hu,h3])
 rw [e,this]
def Bd (ds:List Dat) (b:Nat→Nat):Prop:=∀ i (d:Dat),ds[i]? = some d→d.rows.length≤b i
abbrev daH (L:List Int) (a:Int) (x:List Tbl) (ds:List Dat) (es:List (AV×AV)):Zd:=[.cells [LR L,I a],.cells [.rows (x.map Za)],.cells [.nils],.cells [.rows (x.map Za),.rows (x.map nlC),.nils],.cells (txC x ds 3 5),.map es]
section
variable {L:List Int}
theorem ZtL (x:List Tbl) (hx:MadeX x) (ns:List (List UInt8)) (w:Nat) (u:Tbl) (hu:x[w]? = some u) (k p:Int) (c:Nat) (hc:c≤5) :
  ∀ (q j:Nat) (ds:List Dat) (es:List (AV×AV)) (a B:Int) (b:Nat→Nat),c=j+q→Gd L a B→(1000*q:Int)≤B→SetE es→Led x ds→Bd ds b→(∀ i,b i+(if i=w then q else 0)≤18) →
  ∃ (ds':List Dat) (es':List (AV×AV)) (a':Int),a≤a'∧a'≤a+1000*q∧SetE es'∧Led x ds'∧Bd ds' (fun i=>b i+if i=w then q else 0) ∧
  ∀ (ks:List It) (jj:Int) (Bo:Code),Zf Tryz.f5 4 Bo→jj=(j:Int) →
  RL K (.run 5 1 (.code Bo::.lp Bo (some ([0,2,4,6,7,8,11,22,24,25,26,33,34],[])) 6::.blk 4 6::ks) [(0,.ptr 0 0),(2,I 5),(4,.ptr 1 0),(6,.ptr 2 0),(7,.ptr 4 0),(8,.rows (SLs ns)),(11,.str u.nm),(22,I k),(24,.rows (SLs ns)),(25,I (ns.length:Int)),(26,I p),(33,I (c:Int)),(34,I jj)] (daH L a x ds es)) =
  R K (.run 5 1 ks [(0,.ptr 0 0),(2,I 5),(4,.ptr 1 0),(6,.ptr 2 0),(7,.ptr 4 0),(8,.rows (SLs ns)),(22,I k),(24,.rows (SLs ns)),(25,I (ns.length:Int)),(26,I p)] (daH L a' x ds' es'))
 | 0,j,ds,es,a,B,b,hq,hG,hB',hS,hL,hbd,hb=>by
  have d:¬(j:Int) < (c:Int):=by omega
  refine ⟨ds,es,a,by omega,by omega,hS,hL,fun i d' hd=>by have:=hbd i d' hd;show d'.rows.length≤b i+_;omega,fun ks jj Bo hB hj=>?_⟩
  subst hj
  simp only [daH,txC]
  unfold Zf at hB
  simp -implicitDefEqProofs only [go_sem,simprocAttr,Tryz.f5,Zb] at hB
  subst hB
  rw [Zc]
  simp -implicitDefEqProofs only [go_sem,simprocAttr,d,Zq]
 | q+1,j,ds,es,a,B,b,hq,hG,hB',hS,hL,hbd,hb=>by
  have d:(j:Int) < (c:Int):=by omega
  have h7:=Zs (i:=j) (n:=c) (by omega) (by omega)
  have mu:=List.mem_of_getElem? hu
  have su:=hx.sz.tbl u mu
  have ucl:=su.cl
  have unm:=su.nm
  have hxl:=hL.fit.len
  have hdl:=hL.ok.len
  have gu:=ZG hu
  have hwl:=(List.getElem?_eq_some_iff.1 hu).1
  obtain ⟨d0,hd0⟩:=Ze (l:=ds) (i:=w) (by omega)
  have hs:Seen x ds u.nm w u d0:=⟨ZsW hx.right hu,hu,hd0⟩
  have xt:=Yu x u.nm hxl
  rw [hs.ix] at xt
  obtain ⟨r,a1,xr,hr,p1,p2⟩:=ZBW hG (by omega) u (by omega)
  obtain ⟨e,es1,ds1,s1,c1,xi⟩:=ZpL x hx ds hL es hS hs (by omega) (fun d' hd=>by
   obtain ⟨i,hi,he⟩:=List.mem_iff_getElem.1 hd
   have h1:=hbd i d' (by rw [List.getElem?_eq_getElem hi,he])
   have h2:=hb i
   omega) r (by omega)
  have hL1:Led x ds1:=by
   rcases c1 with rfl | ⟨rs,m,_,rfl⟩
   ·exact hL
   ·exact hL.more hs hr (by omega) (by have h1:=hbd w d0 hd0;have h2:=hb w;omega) m
  have hbd1:Bd ds1 (fun i=>b i+if i=w then 1 else 0):=by
   rcases c1 with rfl | ⟨rs,m,_,rfl⟩
   ·intro i d' hd
    have:=hbd i d' hd
    show d'.rows.length≤b i+_
    omega
   ·intro i d' hd
    rw [List.getElem?_set] at hd
    by_cases e:w=i
    ·subst e
     rw [if_pos rfl,if_pos (by omega)] at hd
     obtain rfl:=Option.some.inj hd
     have h1:=hbd w d0 hd0
     have ml:=m.1
     rw [List.length_append,List.length_cons,List.length_nil] at ml
     show rs.length≤b w+(if w=w then 1 else 0)
     rw [if_pos rfl]
     omega
    ·rw [if_neg e] at hd
     have:=hbd i d' hd
     show d'.rows.length≤b i+_
     omega
  have hb1:∀ i,(b i+if i=w then 1 else 0)+(if i=w then q else 0)≤18:=fun i=>by
   have:=hb i
   split<;>rename_i e
   ·rw [if_pos e] at this;omega
   ·rw [if_neg e] at this;omega
  obtain ⟨ds',es',a',p3,p4,s',hL',hbd',ih⟩:=ZtL x hx ns w u hu k p c hc q (j+1) ds1 es1 a1 (B - 1000) _ (by omega) (hG.step _ _ (by omega) (by omega)) (by omega) s1 hL1 hbd1 hb1
  refine ⟨ds',es',a',by omega,by omega,s',hL',fun i d' hd=>?_,fun ks jj Bo hB hj=>?_⟩
  ·have:=hbd' i d' hd
   show d'.rows.length≤b i+if i=w then q+1 else 0
   have h2:(b i+if i=w then 1 else 0)+(if i=w then q else 0)=b i+if i=w then q+1 else 0:=by
    split<;>omega
   rw [←h2]
   exact this
  ·subst hj
   have ih:=ih ks _ Bo hB rfl
   simp only [Za] at gu
   simp only [ZX,Za] at xr
   simp only [txH,txC] at xi
   simp only [daH,txC] at ih ⊢
   unfold Zf at hB
   simp -implicitDefEqProofs only [go_sem,simprocAttr,Tryz.f5,Zb] at hB
   subst hB
   rw [Zc]
   simp -implicitDefEqProofs only [go_sem,simprocAttr,d,h7,gu,xt,xr,xi,Za,Zq]
   exact ih
end
theorem ZiY {x:List Tbl} (h:RightX x):∀ (m:Nat) (o:List Nat),x.length=o.length+m→o.Nodup→(∀ j∈o,j < x.length)→(Qu x m o).Nodup∧(∀ j∈Qu x m o,j < x.length)∧(Qu x m o).length=x.length
 | 0,o,hq,hn,hl=>⟨hn,hl,by show o.length=_;omega⟩
 | m+1,o,hq,hn,hl=>by
  obtain ⟨i,e1,e2,e3⟩:=ZhA h o (by omega)
  have hN:Qu x (m+1) o=Qu x m (o++[i]):=by simp only [Qu];rw [e1]
  have hi:i∉o:=fun hm=>by
   unfold Qp at e3
   rw [List.contains_iff_mem.2 hm] at e3
   simp at e3
  rw [hN]
  refine ZiY h m (o++[i]) (by simp;omega) ?_ fun j hj=>?_
  ·rw [List.nodup_append]
   refine ⟨hn,by simp,fun a ha b hb e=>?_⟩
   rw [List.mem_singleton] at hb
   exact hi (by rw [←hb,←e];exact ha)
  ·rcases List.mem_append.1 hj with h1 | h1
   ·exact hl j h1
   ·rw [List.mem_singleton] at h1;omega
theorem ZkS {o:List Nat} {j w:Nat} (h:o[j]? = some w) (i:Nat):(o.drop j).count i=(if i=w then 1 else 0)+(o.drop (j+1)).count i:=by
 rw [ZE h,List.count_cons]
 by_cases e:i=w
 ·subst e
  simp
  omega
 ·have e':¬w=i:=fun h=>e h.symm
  simp [e,e']
section
variable {L:List Int}
theorem Zts (x:List Tbl) (hx:MadeX x) (o:List Nat) (ho:∀ j∈o,j < x.length) (hol:o.length≤1000) (k:Int) :
  ∀ (q j:Nat) (ds:List Dat) (es:List (AV×AV)) (a B:Int) (b:Nat→Nat),o.length=j+q→Gd L a B→(6000*q:Int)≤B→SetE es→Led x ds→Bd ds b→(∀ i,b i+5*(o.drop j).count i≤18) →
  ∃ (ds':List Dat) (es':List (AV×AV)) (a':Int),a≤a'∧a'≤a+6000*q∧SetE es'∧Led x ds'∧Bd ds' (fun i=>b i+5*(o.drop j).count i) ∧
  ∀ (ks:List It) (jj:Int) (Bo:Code),Zf Tryz.f5 2 Bo→jj=(j:Int) →
  RL K (.run 5 1 (.code Bo::.lp Bo (some ([0,2,4,6,7,8,22,24,25,26],[])) 6::.blk 2 6::ks) [(0,.ptr 0 0),(2,I 5),(4,.ptr 1 0),(6,.ptr 2 0),(7,.ptr 4 0),(8,.rows (SLs (o.map (nmX x)))),(22,I k),(24,.rows (SLs (o.map (nmX x)))),(25,I (o.length:Int)),(26,I jj)] (daH L a x ds es)) =
  R K (.run 5 1 ks [(0,.ptr 0 0),(2,I 5),(4,.ptr 1 0),(6,.ptr 2 0),(7,.ptr 4 0),(8,.rows (SLs (o.map (nmX x)))),(22,I k)] (daH L a' x ds' es'))
 | 0,j,ds,es,a,B,b,hq,hG,hB',hS,hL,hbd,hb=>by
  have d:¬(j:Int) < (o.length:Int):=by omega
  refine ⟨ds,es,a,by omega,by omega,hS,hL,fun i d' hd=>by have:=hbd i d' hd;show d'.rows.length≤b i+_;omega,fun ks jj Bo hB hj=>?_⟩
  subst hj
  simp only [daH,txC]
  unfold Zf at hB
  simp -implicitDefEqProofs only [go_sem,simprocAttr,Tryz.f5,Zb] at hB
  subst hB
  rw [Zc]
  simp -implicitDefEqProofs only [go_sem,simprocAttr,d,Zq]
 | q+1,j,ds,es,a,B,b,hq,hG,hB',hS,hL,hbd,hb=>by
  have d:(j:Int) < (o.length:Int):=by omega
  have h7:=Zs (i:=j) (n:=o.length) (by omega) (by omega)
  obtain ⟨w,hw⟩:=Ze (l:=o) (i:=j) (by omega)
  obtain ⟨u,hu⟩:=Ze (l:=x) (i:=w) (ho w (List.mem_of_getElem? hw))
  have gs:at? (SLs (o.map (nmX x))) (j:Int)=some [.str u.nm]:=Wg (by rw [List.getElem?_map,hw,Option.map_some,ZbT hu])
  have x0:=ZN hG (by omega) 6
  have b0:=Zu L a 6 (by omega) (by omega)
  obtain ⟨c,hc⟩:∃ c:Nat,Zw L a 6=(c:Int):=⟨(Zw L a 6).toNat,by omega⟩
  rw [hc] at x0 b0
  have hcd:=ZkS hw
  have ole:(SLs (o.map (nmX x))).length=o.length:=by rw [Yx,List.length_map]
  obtain ⟨ds1,es1,a1,p1,p2,s1,hL1,hbd1,l4⟩:=ZtL (L:=L) x hx (o.map (nmX x)) w u hu k (j:Int) c (by omega) c 0 ds es (a+1) (B - 1) b (by omega) (hG.step _ _ (by omega) (by omega)) (by omega) hS hL hbd (fun i=>by
   have h1:=hb i
   rw [hcd i] at h1
   split<;>rename_i e
   ·rw [if_pos e] at h1;omega
   ·omega)
  have l4:=fun ks B hB=>l4 ks 0 B hB rfl
  obtain ⟨ds',es',a',p3,p4,s',hL',hbd',ih⟩:=Zts x hx o ho hol k q (j+1) ds1 es1 a1 (B - 6000) (fun i=>b i+5*(if i=w then 1 else 0)) (by omega) (hG.step _ _ (by omega) (by omega)) (by omega) s1 hL1 (fun i d' hd=>by
   have h1:=hbd1 i d' hd
   show d'.rows.length≤b i+5*_
   have h2:b i+(if i=w then c else 0)≤b i+5*(if i=w then 1 else 0):=by split<;>omega
   exact Nat.le_trans h1 h2) (fun i=>by
   have h1:=hb i
   rw [hcd i] at h1
   show b i+5*(if i=w then 1 else 0)+_≤18
   omega)
  refine ⟨ds',es',a',by omega,by omega,s',hL',fun i d' hd=>?_,fun ks jj Bo hB hj=>?_⟩
  ·have h1:=hbd' i d' hd
   show d'.rows.length≤b i+5*(o.drop j).count i
   rw [hcd i]
   have h2:b i+5*(if i=w then 1 else 0)+5*(o.drop (j+1)).count i=b i+5*((if i=w then 1 else 0)+(o.drop (j+1)).count i):=by omega
   rw [←h2]
   exact h1
  ·subst hj
   have ih:=ih ks _ Bo hB rfl
   simp only [List.length_map] at l4
   simp only [daH,txC] at ih l4 ⊢
   unfold Zf at hB
   simp -implicitDefEqProofs only [go_sem,simprocAttr,Tryz.f5,Zb] at hB
   subst hB
   rw [Zc]
   simp -implicitDefEqProofs only [go_sem,simprocAttr,d,h7,gs,x0,ole,Zq]
   rw [l4 _ _ (by rfl)]
   simp -implicitDefEqProofs only [go_sem,simprocAttr,h7,ole,Zq]
   exact ih
theorem ZtG (x:List Tbl) (hx:MadeX x) (o:List Nat) (ho:∀ j∈o,j < x.length) (hol:o.length≤3) :
  ∀ (q j:Nat) (ds:List Dat) (es:List (AV×AV)) (a B:Int) (b:Nat→Nat),2=j+q→Gd L a B→(20000*q:Int)≤B→SetE es→Led x ds→Bd ds b→(∀ i,b i+q*(5*o.count i)≤18) →
  ∃ (ds':List Dat) (es':List (AV×AV)) (a':Int),a≤a'∧a'≤a+20000*q∧SetE es'∧Led x ds'∧Bd ds' (fun i=>b i+q*(5*o.count i)) ∧
  ∀ (ks:List It) (jj:Int) (Bo:Code),Zf Tryz.f5 0 Bo→jj=(j:Int) →
  RL K (.run 5 1 (.code Bo::.lp Bo (some ([0,2,4,6,7,8,22],[])) 6::.blk 0 6::ks) [(0,.ptr 0 0),(2,I 5),(4,.ptr 1 0),(6,.ptr 2 0),(7,.ptr 4 0),(8,.rows (SLs (o.map (nmX x)))),(22,I jj)] (daH L a x ds es)) =
  R K (.run 5 1 ks [(6,.ptr 2 0),(7,.ptr 4 0)] (daH L a' x ds' es'))
 | 0,j,ds,es,a,B,b,hq,hG,hB',hS,hL,hbd,hb=>by
  have d:¬(j:Int) < 2:=by omega
  refine ⟨ds,es,a,by omega,by omega,hS,hL,fun i d' hd=>by have:=hbd i d' hd;show d'.rows.length≤b i+_;omega,fun ks jj Bo hB hj=>?_⟩
  subst hj
  simp only [daH,txC]
  unfold Zf at hB
  simp -implicitDefEqProofs only [go_sem,simprocAttr,Tryz.f5,Zb] at hB
  subst hB
  rw [Zc]
  simp -implicitDefEqProofs only [go_sem,simprocAttr,d,Zq]
 | q+1,j,ds,es,a,B,b,hq,hG,hB',hS,hL,hbd,hb=>by
  have d:(j:Int) < 2:=by omega
  have h7:=Zs (i:=j) (n:=2) (by omega) (by omega)
  have ole:(SLs (o.map (nmX x))).length=o.length:=by rw [Yx,List.length_map]
  obtain ⟨ds1,es1,a1,p1,p2,s1,hL1,hbd1,l2⟩:=Zts (L:=L) x hx o ho (by omega) (j:Int) o.length 0 ds es a B b (by omega) hG (by omega) hS hL hbd (fun i=>by
   have h1:=hb i
   rw [List.drop_zero]
   rw [Nat.succ_mul] at h1
   omega)
  have l2:=fun ks B hB=>l2 ks 0 B hB rfl
  rw [List.drop_zero] at hbd1
  obtain ⟨ds',es',a',p3,p4,s',hL',hbd',ih⟩:=ZtG x hx o ho hol q (j+1) ds1 es1 a1 (B - 20000) _ (by omega) (hG.step _ _ (by omega) (by omega)) (by omega) s1 hL1 hbd1 (fun i=>by
   have h1:=hb i
   rw [Nat.succ_mul] at h1
   show b i+5*o.count i+_≤18
   omega)
  refine ⟨ds',es',a',by omega,by omega,s',hL',fun i d' hd=>?_,fun ks jj Bo hB hj=>?_⟩
  ·have h1:=hbd' i d' hd
   show d'.rows.length≤b i+(q+1)*(5*o.count i)
   have h2:b i+5*o.count i+q*(5*o.count i)=b i+(q+1)*(5*o.count i):=by
    generalize 5*o.count i=c
    rw [Nat.succ_mul]
    omega
   rw [←h2]
   exact h1
  ·subst hj
   have ih:=ih ks _ Bo hB rfl
   simp only [daH,txC] at ih l2 ⊢
   unfold Zf at hB
   simp -implicitDefEqProofs only [go_sem,simprocAttr,Tryz.f5,Zb] at hB
   subst hB
   rw [Zc]
   simp -implicitDefEqProofs only [go_sem,simprocAttr,d,h7,ole,Zq]
   rw [l2 _ _ (by rfl)]
   simp -implicitDefEqProofs only [go_sem,simprocAttr,h7,ole,Zq]
   exact ih
theorem Zr5 {x:List Tbl} (hx:MadeX x):Led x (noD x):=by
 have hl:=hx.sz.l3
 refine ⟨hx.sz.fit (by omega),hx.right,hx.idxIn,⟨by simp [noD],fun i t d hi hd=>?_⟩,⟨by simp [noD];omega,fun d hd=>?_⟩⟩
 ·simp only [noD,List.getElem?_map,hi,Option.map_some,Option.some.injEq] at hd
  subst hd
  intro r hr
  simp at hr
 ·obtain ⟨t,_,rfl⟩:=List.mem_map.1 hd
  simp
theorem Zwg {a B:Int} (hG:Gd L a B) (hB:50000≤B) (x:List Tbl) (hx:MadeX x):∃ (ds:List Dat) (a':Int),R K (.call 5 [.ptr 0 0,WI x,I 5] (St L a))=some (YF ds,St L a')∧a≤a'∧a'≤a+50000∧Led x ds∧∀ d∈ds,d.rows.length≤10:=by
 have hl1:=hx.sz.l1
 have hl3:=hx.sz.l3
 have xN:=ZlH x hl1 hl3
 have xB:=Zs9 x hl1 hl3
 have xO:=ZqA x (hx.sz.fit (by omega)) hx.right (by omega)
 obtain ⟨o1,o2,o3⟩:=ZiY hx.right x.length [] (by simp) (by simp) (by simp)
 have cnt:∀ i,(Qu x x.length []).count i≤1:=fun i=>List.nodup_iff_count.1 o1 i
 obtain ⟨ds,es,a',p1,p2,s1,hL,hbd,l0⟩:=ZtG (L:=L) x hx (Qu x x.length []) o2 (by omega) 2 0 (noD x) [] a B (fun _=>0) (by omega) hG (by omega) SetE.nil (Zr5 hx) (fun i d hd=>by
  simp only [noD,List.getElem?_map] at hd
  obtain ⟨t,_,rfl⟩:=Option.map_eq_some_iff.1 hd
  simp) (fun i=>by have:=cnt i;show 0+2*_≤18;omega)
 have l0:=fun ks B hB=>l0 ks 0 B hB rfl
 obtain ⟨es',_,xD⟩:=Zoq x ds hx es s1
 refine ⟨ds,a',?_,p1,by omega,hL,fun d hd=>?_⟩
 ·simp only [ZnA,Jz,List.cons_append,List.nil_append,txC,txH] at xN xB xO xD
  simp only [daH,txC] at l0
  have ole:(SLs ((Qu x x.length []).map (nmX x))).length=(Qu x x.length []).length:=by rw [Yx,List.length_map]
  generalize Qu x x.length []=o at *
  rw [ZvK]
  simp -implicitDefEqProofs only [go_sem,simprocAttr,Tryz.f5,xN,xB,xO,ole,Zq]
  rw [l0 _ _ (by rfl)]
  simp -implicitDefEqProofs only [go_sem,simprocAttr,xD]
 ·obtain ⟨i,hi,he⟩:=List.mem_iff_getElem.1 hd
  have h1:=hbd i d (by rw [List.getElem?_eq_getElem hi,he])
  have h2:=cnt i
  have h3:d.rows.length≤0+2*(5*(Qu x x.length []).count i):=h1
  omega
end
theorem JP (ds:List Dat) (h:1≤ds.length) (hl:ds.length≤1000000):R K (.call 29 [.rows (ds.map Zh)] [])=some (.own 0 ds.length,[.rows 2 (ds.map Zh) true]):=by
 have e:=JG (f:=Zh) h
 have rm:(ds.length*41≤Zg)=True:=eq_true (by unfold Zg;omega)
 have d:(0 < ds.length)=True:=eq_true (by omega)
 have hp:K.prim 29 [.rows (ds.map Zh)]=none:=by
  cases ds with
  | nil=>simp at h
  | cons a x=>rfl
 rw [Zr4 hp]
 simp -implicitDefEqProofs only [go_sem,simprocAttr,Tryz.f29,e,rm,d,ZdO,Zb1,List.length_map,List.length_nil,Nat.zero_add,List.nil_append]
abbrev mxR (rs:List (List Val)) (k l n:Nat):List (List AV):=(rs.map Zn).set k [.own l n]
theorem Xq (rs:List (List Val)) (k l n:Nat):(mxR rs k l n).length=rs.length:=by simp [mxR]
theorem Je {rs:List (List Val)} {k:Nat} (h:k < rs.length) (l n:Nat):(mxR rs k l n)[k]? = some [.own l n]:=by
 rw [List.getElem?_set_self (by simpa using h)]
theorem Zmf {rs:List (List Val)} {k i:Nat} (e:k≠i) {r:List Val} (h:rs[i]? = some r) (l n:Nat):(mxR rs k l n)[i]? = some (Zn r):=by
 rw [List.getElem?_set_ne e,List.getElem?_map,h]
 rfl
theorem ZM:∀ (rs:List (List Val)) (k l n:Nat),k < rs.length→ZL (mxR rs k l n)=[l]
 | r::rs,0,l,n,_=>by
  show Zk [AV.own l n]++ZL (rs.map Zn)=[l]
  rw [YD]
  rfl
 | r::rs,k+1,l,n,h=>by
  show Zk (Zn r)++ZL (mxR rs k l n)=[l]
  rw [ZM rs k l n (by simpa using h)]
  rfl
theorem JS (σ:Nat→Nat):∀ (rs:List (List Val)) (k l n:Nat),XK σ (mxR rs k l n)=mxR rs k (σ l) n
 | [],k,l,n=>rfl
 | r::rs,0,l,n=>by
  show XI σ [AV.own l n]::XK σ (rs.map Zn)=_
  rw [Zc8]
  rfl
 | r::rs,k+1,l,n=>by
  show XI σ (Zn r)::XK σ (mxR rs k l n)=_
  rw [JS σ rs k l n]
  rfl
theorem ZrX {rs:List (List Val)} {i j k l n:Nat} {r s:List Val} (hij:i < j) (hi:rs[i]? = some r) (hj:rs[j]? = some s) (hk:k < rs.length) :
  (k=i∧((mxR rs k l n).set i (Zn s)).set j [.own l n]=mxR ((rs.set i s).set j r) j l n) ∨
  (k=j∧((mxR rs k l n).set i [.own l n]).set j (Zn r)=mxR ((rs.set i s).set j r) i l n) ∨
  (k≠i∧k≠j∧((mxR rs k l n).set i (Zn s)).set j (Zn r)=mxR ((rs.set i s).set j r) k l n):=by
 have lj:=(List.getElem?_eq_some_iff.1 hj).1
 have li:=(List.getElem?_eq_some_iff.1 hi).1
 by_cases e1:k=i
 ·refine .inl ⟨e1,?_⟩
  subst e1
  refine List.ext_getElem? fun a=>?_
  simp only [mxR,List.getElem?_set,List.getElem?_map,List.length_set,List.length_map]
  by_cases h1:j=a
  ·subst h1
   simp [lj]
  ·by_cases h2:k=a
   ·subst h2
    simp [h1,li]
   ·simp [h1,h2]
 ·by_cases e2:k=j
  ·refine .inr (.inl ⟨e2,?_⟩)
   subst e2
   refine List.ext_getElem? fun a=>?_
   simp only [mxR,List.getElem?_set,List.getElem?_map,List.length_set,List.length_map]
   by_cases h1:k=a
   ·subst h1
    have:¬i=k:=by omega
    simp [lj,this]
   ·by_cases h2:i=a
    ·subst h2
     simp [h1,li]
    ·simp [h1,h2]
  ·refine .inr (.inr ⟨e1,e2,?_⟩)
   refine List.ext_getElem? fun a=>?_
   simp only [mxR,List.getElem?_set,List.getElem?_map,List.length_set,List.length_map]
   by_cases h1:j=a
   ·subst h1
    simp [lj,e2]
   ·by_cases h2:i=a
    ·subst h2
     simp [h1,li,e1]
    ·by_cases h3:k=a
     ·subst h3
      simp [h1,h2,hk]
     ·simp [h1,h2,h3]
theorem Zni {rs:List (List Val)} {i j:Nat} {r s:List Val} (hi:rs[i]? = some r) (hj:rs[j]? = some s):Shuf rs ((rs.set i s).set j r):=by
 refine ⟨by simp,fun y hy=>?_⟩
 rcases List.mem_or_eq_of_mem_set hy with h1 | h1
 ·rcases List.mem_or_eq_of_mem_set h1 with h2 | h2
  ·exact h2
  ·rw [h2];exact List.mem_of_getElem? hj
 ·rw [h1];exact List.mem_of_getElem? hi
abbrev rvH (rs:List (List Val)) (k m:Nat) (v:List Val):Zd:=[.rows 1 (mxR rs k 1 m) true,.rows 3 (v.map vC) true]
theorem ZmA (n m:Nat) (hn:n≤1000) (v:List Val):∀ (q i j k:Nat) (rs:List (List Val)),rs.length=n→j < n→k < n→j≤i+q →
  ∃ rs' k',Shuf rs rs'∧k' < n∧∀ (ks:List It) (ii jj:Int) (Bo:Code),Zf Tryz.f32 0 Bo→ii=(i:Int)→jj=(j:Int) →
  RL K (.run 32 2 (.code Bo::.lp Bo (some ([0,2,3],[])) 2::.blk 0 2::ks) [(0,.own 0 n),(2,I ii),(3,I jj)] (rvH rs k m v)) =
  R K (.run 32 2 ks [] (rvH rs' k' m v))
 | 0,i,j,k,rs,hl,hj,hk,hq=>by
  have d:¬(i:Int) < (j:Int):=by omega
  have hlo:=ZM rs k 1 m (by omega)
  refine ⟨rs,k,Shuf.refl _,hk,fun ks ii jj Bo hB hi hjj=>?_⟩
  subst hi hjj
  simp only [rvH]
  unfold Zf at hB
  simp -implicitDefEqProofs only [go_sem,simprocAttr,Tryz.f32,Zb] at hB
  subst hB
  rw [Zc]
  simp -implicitDefEqProofs only [go_sem,simprocAttr,d,hlo]
 | q+1,i,j,k,rs,hl,hj,hk,hq=>by
  by_cases hij:i < j
  ·have d:(i:Int) < (j:Int):=by omega
   obtain ⟨r,hr⟩:=Ze (l:=rs) (i:=i) (by omega)
   obtain ⟨s,hs⟩:=Ze (l:=rs) (i:=j) (by omega)
   have w1:ZC .i64 ((i:Int)+1)=((i+1:Nat):Int):=by rw [ZV (by omega) (by omega)];omega
   have w2:ZC .i64 ((j:Int) - 1)=((j - 1:Nat):Int):=by rw [ZV (by omega) (by omega)];omega
   have m2:=Zni hr hs
   have hlo:=ZM rs k 1 m (by omega)
   have n1:=Xq rs k 1 m
   rw [hl] at n1
   have sp:∀ x y:AV,splice [x] 0 [y]=[y]:=fun _ _=>rfl
   rcases ZrX (k:=k) (l:=1) (n:=m) hij hr hs (by omega) with ⟨e,se⟩ | ⟨e,se⟩ | ⟨e1,e2,se⟩
   ·subst e
    obtain ⟨rs',k',p1,p2,ih⟩:=ZmA n m hn v q (k+1) (j - 1) j ((rs.set k s).set j r) (by simp;omega) (by omega) (by omega) (by omega)
    refine ⟨rs',k',m2.trans p1,p2,fun ks ii jj Bo hB hi hjj=>?_⟩
    subst hi hjj
    have ih:=ih ks _ _ Bo hB rfl rfl
    have br:=Je (rs:=rs) (k:=k) (by omega) 1 m
    have bs:=Zmf (by omega:k≠j) hs 1 m
    have gr:=Z2 br
    have gs:=Z2 bs
    have b2:((mxR rs k 1 m).set k (Zn s))[j]? = some (Zn s):=by rw [List.getElem?_set_ne (by omega)];exact bs
    have g2:=Z2 b2
    have n2:((mxR rs k 1 m).set k (Zn s)).length=n:=by rw [List.length_set];exact n1
    simp only [rvH] at ih ⊢
    rw [←se] at ih
    generalize mxR rs k 1 m=R0 at *
    simp only [rvH,Zn] at ih gs bs b2 g2 n2 ⊢
    unfold Zf at hB
    simp -implicitDefEqProofs only [go_sem,simprocAttr,Tryz.f32,Zb] at hB
    subst hB
    rw [Zc]
    simp -implicitDefEqProofs only [go_sem,simprocAttr,d,w1,w2,gr,gs,br,bs,b2,g2,n1,n2,sp,hl,hlo,List.length_set,List.length_map,Int.toNat_natCast]
    exact ih
   ·subst e
    obtain ⟨rs',k',p1,p2,ih⟩:=ZmA n m hn v q (i+1) (k - 1) i ((rs.set i s).set k r) (by simp;omega) (by omega) (by omega) (by omega)
    refine ⟨rs',k',m2.trans p1,p2,fun ks ii jj Bo hB hi hjj=>?_⟩
    subst hi hjj
    have ih:=ih ks _ _ Bo hB rfl rfl
    have bs:=Je (rs:=rs) (k:=k) (by omega) 1 m
    have br:=Zmf (by omega:k≠i) hr 1 m
    have gr:=Z2 br
    have gs:=Z2 bs
    have b2:((mxR rs k 1 m).set i [.own 1 m])[k]? = some [.own 1 m]:=by rw [List.getElem?_set_ne (by omega)];exact bs
    have g2:=Z2 b2
    have n2:((mxR rs k 1 m).set i [.own 1 m]).length=n:=by rw [List.length_set];exact n1
    simp only [rvH] at ih ⊢
    rw [←se] at ih
    generalize mxR rs k 1 m=R0 at *
    simp only [rvH,Zn] at ih gr br b2 g2 n2 ⊢
    unfold Zf at hB
    simp -implicitDefEqProofs only [go_sem,simprocAttr,Tryz.f32,Zb] at hB
    subst hB
    rw [Zc]
    simp -implicitDefEqProofs only [go_sem,simprocAttr,d,w1,w2,gr,gs,br,bs,b2,g2,n1,n2,sp,hl,hlo,List.length_set,List.length_map,Int.toNat_natCast]
    exact ih
   ·obtain ⟨rs',k',p1,p2,ih⟩:=ZmA n m hn v q (i+1) (j - 1) k ((rs.set i s).set j r) (by simp;omega) (by omega) (by omega) (by omega)
    refine ⟨rs',k',m2.trans p1,p2,fun ks ii jj Bo hB hi hjj=>?_⟩
    subst hi hjj
    have ih:=ih ks _ _ Bo hB rfl rfl
    have br:=Zmf e1 hr 1 m
    have bs:=Zmf e2 hs 1 m
    have gr:=Z2 br
    have gs:=Z2 bs
    have b2:((mxR rs k 1 m).set i (Zn s))[j]? = some (Zn s):=by rw [List.getElem?_set_ne (by omega)];exact bs
    have g2:=Z2 b2
    have n2:((mxR rs k 1 m).set i (Zn s)).length=n:=by rw [List.length_set];exact n1
    simp only [rvH] at ih ⊢
    rw [←se] at ih
    generalize mxR rs k 1 m=R0 at *
    simp only [rvH,Zn] at ih gr gs br bs b2 g2 n2 ⊢
    unfold Zf at hB
    simp -implicitDefEqProofs only [go_sem,simprocAttr,Tryz.f32,Zb] at hB
    subst hB
    rw [Zc]
    simp -implicitDefEqProofs only [go_sem,simprocAttr,d,w1,w2,gr,gs,br,bs,b2,g2,n1,n2,sp,hl,hlo,List.length_set,List.length_map,Int.toNat_natCast]
    exact ih
  ·have d:¬(i:Int) < (j:Int):=by omega
   have hlo:=ZM rs k 1 m (by omega)
   refine ⟨rs,k,Shuf.refl _,hk,fun ks ii jj Bo hB hi hjj=>?_⟩
   subst hi hjj
   simp only [rvH]
   unfold Zf at hB
   simp -implicitDefEqProofs only [go_sem,simprocAttr,Tryz.f32,Zb] at hB
   subst hB
   rw [Zc]
   simp -implicitDefEqProofs only [go_sem,simprocAttr,d,hlo]
theorem Zdf (rs:List (List Val)) (k m:Nat) (v:List Val) (hk:k < rs.length) (hl:rs.length≤1000):∃ rs' k',Shuf rs rs'∧k' < rs.length∧R K (.call 32 [.own 0 rs.length] (rvH rs k m v))=some (.tup [],rvH rs' k' m v):=by
 obtain ⟨rs',k',p1,p2,l0⟩:=ZmA rs.length m hl v rs.length 0 (rs.length - 1) k rs rfl (by omega) hk (by omega)
 have l0:=fun ks B hB=>l0 ks 0 _ B hB rfl rfl
 have w2:ZC .i64 ((rs.length:Int) - 1)=((rs.length - 1:Nat):Int):=by rw [ZV (by omega) (by omega)];omega
 have hl1:=ZM rs k 1 m hk
 have hl2:=ZM rs' k' 1 m (by rw [p1.1];exact p2)
 have n1:=Xq rs k 1 m
 refine ⟨rs',k',p1,p2,?_⟩
 simp only [rvH] at l0 ⊢
 generalize mxR rs k 1 m=R0 at *
 generalize mxR rs' k' 1 m=R1 at *
 rw [ZsC]
 simp -implicitDefEqProofs only [go_sem,simprocAttr,Tryz.f32,w2,hl1,hl2,n1,List.length_map]
 rw [l0 _ _ (by rfl)]
 simp -implicitDefEqProofs only [go_sem,simprocAttr,hl2]
theorem Yp (h:Zd) (l:Nat) (v:List Val) (hv:h[l]? = some (.rows 3 (v.map vC) true)) (h1:1≤l):∀ (rs:List (List Val)) (k:Nat),
  ZZ (Z7 (Xu fun _=>none) false 1 h) (mxR rs k l v.length)=some ((rs.set k v).map Zn):=by
 have one:∀ r,Z7 (Xu fun _=>none) false 1 h (Zn r)=some (Zn r):=fun r=>rfl
 have two:Z7 (Xu fun _=>none) false 1 h [.own l v.length]=some (Zn v):=by
  simp only [Z7,Yf,hv,List.length_map,h1,true_or,and_self,if_true,Xu,Yz]
  rfl
 have all:∀ rs:List (List Val),ZZ (Z7 (Xu fun _=>none) false 1 h) (rs.map Zn)=some (rs.map Zn):=by
  intro rs
  induction rs with
  | nil=>rfl
  | cons r rs ih =>
   simp only [List.map_cons,ZZ,one,ih]
   rfl
 intro rs
 induction rs with
 | nil=>intro k;rfl
 | cons r rs ih =>
  intro k
  cases k with
  | zero =>
   show ZZ _ ([.own l v.length]::rs.map Zn)=_
   simp only [ZZ,two,all]
   rfl
  | succ k =>
   show ZZ _ (Zn r::mxR rs k l v.length)=_
   simp only [ZZ,one,ih k]
   rfl
def Sm (ds:List Dat) (n:Nat):Prop:=ds.length≤3∧∀ d∈ds,d.rows.length≤n∧∀ r∈d.rows,r.length≤n
theorem Sm.set {ds:List Dat} {n:Nat} (h:Sm ds n) (w:Nat) (nm:List UInt8) (rs:List (List Val)) (h1:rs.length≤n+1) (h2:∀ r∈rs,r.length≤n+1):Sm (ds.set w ⟨nm,rs⟩) (n+1):=by
 refine ⟨by rw [List.length_set];exact h.1,fun d hd=>?_⟩
 rcases List.mem_or_eq_of_mem_set hd with h3 | h3
 ·have:=h.2 d h3
  exact ⟨by omega,fun r hr=>by have:=this.2 r hr;omega⟩
 ·subst h3
  exact ⟨h1,h2⟩
theorem Sm.up {ds:List Dat} {n m:Nat} (h:Sm ds n) (e:n≤m):Sm ds m:=⟨h.1,fun d hd=>⟨by have:=(h.2 d hd).1;omega,fun r hr=>by have:=(h.2 d hd).2 r hr;omega⟩⟩
theorem Sm.tail {a:Dat} {ds:List Dat} {n:Nat} (h:Sm (a::ds) n):Sm ds (n+1):=by
 refine ⟨by have:=h.1;simp at this;omega,fun d hd=>?_⟩
 have:=h.2 d (List.mem_cons_of_mem _ hd)
 exact ⟨by omega,fun r hr=>by have:=this.2 r hr;omega⟩
theorem Q3 {rs:List (List Val)} {k:Nat} {r:List Val} (h:rs[k]? = some r):rs.set k r=rs:=by
 obtain ⟨h1,rfl⟩:=List.getElem?_eq_some_iff.1 h
 exact List.set_getElem_self h1
theorem Yr {rs:List (List Val)} {n:Nat} (h:∀ r∈rs,r.length≤n) (k:Nat) {s:List Val} (hs:s.length≤n):∀ r∈rs.set k s,r.length≤n:=fun r hr=>by
 rcases List.mem_or_eq_of_mem_set hr with h1 | h1
 ·exact h r h1
 ·rw [h1];exact hs
theorem Zdp (rs:List (List Val)) (k l n m:Nat):(mxR rs k l n).set k [.own l m]=mxR rs k l m:=by simp [mxR]
theorem Zbh {rs:List (List Val)} {k:Nat} {r:List Val} (h:rs[k]? = some r) (l n:Nat):(mxR rs k l n).set k (Zn r)=rs.map Zn:=by
 have se:=Wu rs k r
 rw [Q3 h] at se
 rw [List.set_set]
 exact se
theorem ZmR (σ:Nat→Nat):∀ l:List Val,XK σ (l.map vC)=l.map vC
 | []=>rfl
 | x::l=>by
  simp only [List.map_cons,XK,ZmR σ l]
  rfl
attribute [go_sem] ZmR
theorem Zdt (r:List Val) (i:Nat) (x:Val):(r.map vC).set i [.int .i64 x.k,.int .i64 x.n,.str x.s]=(r.set i x).map vC:=by rw [List.map_set]
section
variable {L:List Int}
theorem ZnR (a:Dat) (n:Nat) (hn:n≤100) (hs:Sm [a] n) {p B:Int} (hG:Gd L p B) (hB:100≤B) (hw:Zw L p 1=0) :
  ∃ (ds':List Dat) (p':Int),R K (.call 7 [.ptr 0 0,YF [a]] (St L p))=some (YF ds',St L p')∧p≤p'∧p'≤p+100∧Sm ds' (n+1):=by
 have xc:=JP [a] (by simp) (by simp)
 have x0:=ZN hG (by omega) 1
 rw [hw] at x0
 have x1:=Y5 (hG.step (p+1) (B - 1) (by omega) (by omega)) (by omega) 8
 have x2:=Y5 (hG.step (p+1+1) (B - 2) (by omega) (by omega)) (by omega) 8
 obtain ⟨hr,hrr⟩:=hs.2 a (by simp)
 have hrr1:∀ r∈a.rows,r.length≤n+1:=fun r h=>by have:=hrr r h;omega
 have xr:=X8 a.rows (by omega)
 have sp:∀ x y:AV,splice [x] 0 [y]=[y]:=fun _ _=>rfl
 simp only [YF,Zh,List.map_cons,List.map_nil,List.length_cons,List.length_nil,Nat.reduceAdd,Nat.zero_add] at xc ⊢
 cases f1:Zw L (p+1) 8==0 with
 | true =>
  rw [f1] at x1
  refine ⟨[⟨[122,122],a.rows⟩],p+1+1,?_,by omega,by omega,hs.set 0 _ _ (by omega) hrr1⟩
  rw [ZU]
  simp -implicitDefEqProofs only [go_sem,simprocAttr,Tryz.f7,xc,x0,x1,xr,Zh,true_or,Zl,ZB,Zk,Zm,List.map_cons,List.map_nil]
 | false =>
  rw [f1] at x1
  cases f2:Zw L (p+1+1) 8==0 with
  | true =>
   rw [f2] at x2
   refine ⟨[],p+1+1+1,?_,by omega,by omega,hs.tail⟩
   rw [ZU]
   simp -implicitDefEqProofs only [go_sem,simprocAttr,Tryz.f7,xc,x0,x1,x2,xr,Zh,true_or,Zl,ZB,Zk,Zm,List.map_cons,List.map_nil]
  | false =>
   rw [f2] at x2
   by_cases hb:a.rows.length=0
   ·have hb:=List.eq_nil_of_length_eq_zero hb
    refine ⟨[⟨a.nm,[[]]⟩],p+1+1+1,?_,by omega,by omega,hs.set 0 _ _ (by simp) (by simp)⟩
    simp only [hb,List.map_nil,List.length_nil] at xr xc ⊢
    rw [ZU]
    simp -implicitDefEqProofs only [go_sem,simprocAttr,Tryz.f7,xc,x0,x1,x2,xr,Zh,Zn,true_or,Zl,ZB,Zk,Zm,List.map_cons,List.map_nil]
   ·have b0:(((a.rows.length:Nat):Int)==0)=false:=by
     rw [←Bool.not_eq_true,beq_iff_eq];omega
    have x3:=ZN (hG.step (p+1+1+1) (B - 3) (by omega) (by omega)) (by omega) (a.rows.length:Int)
    have n3:=Zu L (p+1+1+1) (a.rows.length:Int) (by omega) (by omega)
    obtain ⟨k,hk⟩:∃ k:Nat,Zw L (p+1+1+1) (a.rows.length:Int)=(k:Int):=⟨(Zw L (p+1+1+1) (a.rows.length:Int)).toNat,by omega⟩
    rw [hk] at x3 n3
    have hkl:k < a.rows.length:=by omega
    obtain ⟨r,hkr⟩:=Ze (l:=a.rows) (i:=k) hkl
    have hrl:=hrr r (List.mem_of_getElem? hkr)
    have gr:=Yj hkr
    have br:(a.rows.map Zn)[k]? = some (Zn r):=by simp [hkr]
    have x4:=ZN (hG.step (p+1+1+1+1) (B - 4) (by omega) (by omega)) (by omega) 5
    have h5:=hG.step (p+1+1+1+1+1) (B - 5) (by omega) (by omega)
    have se:=Wu a.rows k r
    rw [Q3 hkr] at se
    simp only [Zn] at gr br se
    generalize Zw L (p+1+1+1+1) 5=n5 at *
    have rs1:(((a.rows).length+1)*25≤Zg)=True:=eq_true (by unfold Zg;omega)
    have xv:=XD r (by omega)
    have ms:=Je hkl 5 r.length
    have ml:=Xq a.rows k 5 r.length
    have mg:=Z2 ms
    have lo:=ZM a.rows k 5 r.length hkl
    have ro:=JS
    have lf:=fun h (hv:h[5]? = some (.rows 3 (r.map vC) true))=>Yp h 5 r hv (by omega) a.rows k
    by_cases e0:n5=0
    ·have q0:(n5==0)=true:=by simpa using e0
     obtain ⟨rs',k',m1,m2,xR⟩:=Zdf a.rows k r.length r hkl (by omega)
     have lo':=ZM rs' k' 5 r.length (by rw [m1.1];exact m2)
     have lo1:=ZM rs' k' 1 r.length (by rw [m1.1];exact m2)
     have lo0:=ZM a.rows k 1 r.length hkl
     have ml':=Xq rs' k' 5 r.length
     have lf':=fun h (hv:h[5]? = some (.rows 3 (r.map vC) true))=>Yp h 5 r hv (by omega) rs' k'
     have m1l:=m1.1
     refine ⟨[⟨a.nm,rs'.set k' r⟩],p+1+1+1+1+1,?_,by omega,by omega,hs.set 0 _ _ (by rw [List.length_set,m1.1];omega) (Yr (fun r' h=>hrr1 r' (m1.2 r' h)) _ (by omega))⟩
     simp only [rvH,mxR] at xR lf' lo' lo1 lo0 ml' ms ml mg lo lf ro
     rw [ZU]
     simp -implicitDefEqProofs only [go_sem,simprocAttr,Tryz.f7,xc,x0,x1,x2,x3,x4,xr,b0,sp,Zh,Zn,true_or,Zl,ZB,Zk,Zm,Int.toNat_natCast,List.length_map,xv,gr,br,q0,xR,lf',lo',lo1,lo0,ml',ms,ml,mg,lo,ro,m1l,List.map_cons,List.map_nil]
    ·have q0:(n5==0)=false:=by simpa using e0
     by_cases e1:n5=1
     ·have q1:(n5==1)=true:=by simpa using e1
      have ra:=XC a.rows r
      have mb:=Zbh hkr 5 r.length
      have ix:a.rows.length - 1 - (a.rows.length - 1 - k)=k:=by omega
      have il:(a.rows.length - 1 - k < a.rows.length)=True:=eq_true (by omega)
      refine ⟨[⟨a.nm,a.rows++[r]⟩],p+1+1+1+1+1,?_,by omega,by omega,hs.set 0 _ _ (by simp;omega) (fun r' h=>by
       rcases List.mem_append.1 h with h1 | h1
       ·exact hrr1 r' h1
       ·rw [List.mem_singleton] at h1;rw [h1];omega)⟩
      simp only [mxR,Zn] at ms ml mg lo mb ra
      rw [ZU]
      simp -implicitDefEqProofs only [go_sem,simprocAttr,Tryz.f7,xc,x0,x1,x2,x3,x4,xr,b0,sp,Zh,Zn,true_or,Zl,ZB,Zk,Zm,Int.toNat_natCast,List.length_map,xv,gr,br,q0,q1,rs1,ra,mb,ix,il,ms,ml,mg,lo,List.map_cons,List.map_nil,List.length_append,List.length_cons,List.length_nil]
     ·have q1:(n5==1)=false:=by simpa using e1
      by_cases e2:n5=2
      ·have q2:(n5==2)=true:=by simpa using e2
       have va:=Ja r Y3
       have rm2:((r.length+1)*33≤Zg)=True:=eq_true (by unfold Zg;omega)
       have mst:=Zdp a.rows k 5 r.length (r.length+1)
       have lf2:=fun h (hv:h[5]? = some (.rows 3 ((r++[Y3]).map vC) true))=>Yp h 5 (r++[Y3]) hv (by omega) a.rows k
       have lo2:=ZM a.rows k 5 (r.length+1) hkl
       have ml2:=Xq a.rows k 5 (r.length+1)
       refine ⟨[⟨a.nm,a.rows.set k (r++[Y3])⟩],p+1+1+1+1+1,?_,by omega,by omega,hs.set 0 _ _ (by rw [List.length_set];omega) (Yr hrr1 _ (by simp;omega))⟩
       simp only [mxR,vC,Y3,List.length_append,List.length_cons,List.length_nil,Nat.zero_add] at ms ml mg lo lf2 lo2 ml2 mst va
       rw [ZU]
       simp -implicitDefEqProofs only [go_sem,simprocAttr,Tryz.f7,xc,x0,x1,x2,x3,x4,xr,b0,sp,Zh,Zn,true_or,Zl,ZB,Zk,Zm,Int.toNat_natCast,List.length_map,xv,gr,br,q0,q1,q2,rm2,va,mst,lf2,ms,ml,mg,lo,lo2,ml2,Y3,List.map_cons,List.map_nil,List.length_append,List.length_cons,List.length_nil]
      ·have q2:(n5==2)=false:=by simpa using e2
       by_cases hr1:r.length=0
       ·have d1:(0 < (r.length:Int))=False:=eq_false (by omega)
        refine ⟨[⟨a.nm,a.rows.set k r⟩],p+1+1+1+1+1,?_,by omega,by omega,hs.set 0 _ _ (by rw [List.length_set];omega) (Yr hrr1 _ (by omega))⟩
        simp only [mxR] at ms ml mg lo lf
        rw [ZU]
        simp -implicitDefEqProofs only [go_sem,simprocAttr,Tryz.f7,xc,x0,x1,x2,x3,x4,xr,b0,sp,Zh,Zn,true_or,Zl,ZB,Zk,Zm,Int.toNat_natCast,List.length_map,xv,gr,br,q0,q1,q2,d1,lf,ms,ml,mg,lo,List.map_cons,List.map_nil]
       have d1:(0 < (r.length:Int))=True:=eq_true (by omega)
       have x6:=ZN h5 (by omega) (r.length:Int)
       have n6:=Zu L (p+1+1+1+1+1) (r.length:Int) (by omega) (by omega)
       obtain ⟨i,hi⟩:∃ i:Nat,Zw L (p+1+1+1+1+1) (r.length:Int)=(i:Int):=⟨(Zw L (p+1+1+1+1+1) (r.length:Int)).toNat,by omega⟩
       rw [hi] at x6 n6
       obtain ⟨y,p7,x7,b1,b2,_⟩:=ZfK (h5.step (p+1+1+1+1+1+1) (B - 6) (by omega) (by omega)) (by omega)
       obtain ⟨z,hz⟩:=Ze (l:=r) (i:=i) (by omega)
       have bz:(r.map vC)[i]? = some (vC z):=by simp [hz]
       have gz:=Z2 bz
       have vs:=Zdt r i y
       have lf2:=fun h (hv:h[5]? = some (.rows 3 ((r.set i y).map vC) true))=>Yp h 5 (r.set i y) hv (by omega) a.rows k
       rw [List.length_set] at lf2
       refine ⟨[⟨a.nm,a.rows.set k (r.set i y)⟩],p7,?_,by omega,by omega,hs.set 0 _ _ (by rw [List.length_set];omega) (Yr hrr1 _ (by rw [List.length_set];omega))⟩
       simp only [mxR,enc] at ms ml mg lo lf2 x7
       rw [ZU]
       simp -implicitDefEqProofs only [go_sem,simprocAttr,Tryz.f7,xc,x0,x1,x2,x3,x4,xr,b0,sp,Zh,Zn,true_or,Zl,ZB,Zk,Zm,Int.toNat_natCast,List.length_map,xv,gr,br,q0,q1,q2,d1,x6,x7,bz,gz,vs,lf2,ms,ml,mg,lo,List.map_cons,List.map_nil,List.length_set]
theorem Znt (a b:Dat) (n:Nat) (hn:n≤100) (hs:Sm [a,b] n) {p B:Int} (hG:Gd L p B) (hB:100≤B) (hw:Zw L p 2=0) :
  ∃ (ds':List Dat) (p':Int),R K (.call 7 [.ptr 0 0,YF [a,b]] (St L p))=some (YF ds',St L p')∧p≤p'∧p'≤p+100∧Sm ds' (n+1):=by
 have xc:=JP [a,b] (by simp) (by simp)
 have x0:=ZN hG (by omega) 2
 rw [hw] at x0
 have x1:=Y5 (hG.step (p+1) (B - 1) (by omega) (by omega)) (by omega) 8
 have x2:=Y5 (hG.step (p+1+1) (B - 2) (by omega) (by omega)) (by omega) 8
 obtain ⟨hr,hrr⟩:=hs.2 a (by simp)
 have hrr1:∀ r∈a.rows,r.length≤n+1:=fun r h=>by have:=hrr r h;omega
 have xr:=X8 a.rows (by omega)
 have sp:∀ x y:AV,splice [x] 0 [y]=[y]:=fun _ _=>rfl
 simp only [YF,Zh,List.map_cons,List.map_nil,List.length_cons,List.length_nil,Nat.reduceAdd,Nat.zero_add] at xc ⊢
 cases f1:Zw L (p+1) 8==0 with
 | true =>
  rw [f1] at x1
  refine ⟨[⟨[122,122],a.rows⟩,b],p+1+1,?_,by omega,by omega,hs.set 0 _ _ (by omega) hrr1⟩
  rw [ZU]
  simp -implicitDefEqProofs only [go_sem,simprocAttr,Tryz.f7,xc,x0,x1,xr,Zh,true_or,Zl,ZB,Zk,Zm,List.map_cons,List.map_nil]
 | false =>
  rw [f1] at x1
  cases f2:Zw L (p+1+1) 8==0 with
  | true =>
   rw [f2] at x2
   refine ⟨[b],p+1+1+1,?_,by omega,by omega,hs.tail⟩
   rw [ZU]
   simp -implicitDefEqProofs only [go_sem,simprocAttr,Tryz.f7,xc,x0,x1,x2,xr,Zh,true_or,Zl,ZB,Zk,Zm,List.map_cons,List.map_nil]
  | false =>
   rw [f2] at x2
   by_cases hb:a.rows.length=0
   ·have hb:=List.eq_nil_of_length_eq_zero hb
    refine ⟨[⟨a.nm,[[]]⟩,b],p+1+1+1,?_,by omega,by omega,hs.set 0 _ _ (by simp) (by simp)⟩
    simp only [hb,List.map_nil,List.length_nil] at xr xc ⊢
    rw [ZU]
    simp -implicitDefEqProofs only [go_sem,simprocAttr,Tryz.f7,xc,x0,x1,x2,xr,Zh,Zn,true_or,Zl,ZB,Zk,Zm,List.map_cons,List.map_nil]
   ·have b0:(((a.rows.length:Nat):Int)==0)=false:=by
     rw [←Bool.not_eq_true,beq_iff_eq];omega
    have x3:=ZN (hG.step (p+1+1+1) (B - 3) (by omega) (by omega)) (by omega) (a.rows.length:Int)
    have n3:=Zu L (p+1+1+1) (a.rows.length:Int) (by omega) (by omega)
    obtain ⟨k,hk⟩:∃ k:Nat,Zw L (p+1+1+1) (a.rows.length:Int)=(k:Int):=⟨(Zw L (p+1+1+1) (a.rows.length:Int)).toNat,by omega⟩
    rw [hk] at x3 n3
    have hkl:k < a.rows.length:=by omega
    obtain ⟨r,hkr⟩:=Ze (l:=a.rows) (i:=k) hkl
    have hrl:=hrr r (List.mem_of_getElem? hkr)
    have gr:=Yj hkr
    have br:(a.rows.map Zn)[k]? = some (Zn r):=by simp [hkr]
    have x4:=ZN (hG.step (p+1+1+1+1) (B - 4) (by omega) (by omega)) (by omega) 5
    have h5:=hG.step (p+1+1+1+1+1) (B - 5) (by omega) (by omega)
    have se:=Wu a.rows k r
    rw [Q3 hkr] at se
    simp only [Zn] at gr br se
    generalize Zw L (p+1+1+1+1) 5=n5 at *
    have rs1:(((a.rows).length+1)*25≤Zg)=True:=eq_true (by unfold Zg;omega)
    have xv:=XD r (by omega)
    have ms:=Je hkl 5 r.length
    have ml:=Xq a.rows k 5 r.length
    have mg:=Z2 ms
    have lo:=ZM a.rows k 5 r.length hkl
    have ro:=JS
    have lf:=fun h (hv:h[5]? = some (.rows 3 (r.map vC) true))=>Yp h 5 r hv (by omega) a.rows k
    by_cases e0:n5=0
    ·have q0:(n5==0)=true:=by simpa using e0
     obtain ⟨rs',k',m1,m2,xR⟩:=Zdf a.rows k r.length r hkl (by omega)
     have lo':=ZM rs' k' 5 r.length (by rw [m1.1];exact m2)
     have lo1:=ZM rs' k' 1 r.length (by rw [m1.1];exact m2)
     have lo0:=ZM a.rows k 1 r.length hkl
     have ml':=Xq rs' k' 5 r.length
     have lf':=fun h (hv:h[5]? = some (.rows 3 (r.map vC) true))=>Yp h 5 r hv (by omega) rs' k'
     have m1l:=m1.1
     refine ⟨[⟨a.nm,rs'.set k' r⟩,b],p+1+1+1+1+1,?_,by omega,by omega,hs.set 0 _ _ (by rw [List.length_set,m1.1];omega) (Yr (fun r' h=>hrr1 r' (m1.2 r' h)) _ (by omega))⟩
     simp only [rvH,mxR] at xR lf' lo' lo1 lo0 ml' ms ml mg lo lf ro
     rw [ZU]
     simp -implicitDefEqProofs only [go_sem,simprocAttr,Tryz.f7,xc,x0,x1,x2,x3,x4,xr,b0,sp,Zh,Zn,true_or,Zl,ZB,Zk,Zm,Int.toNat_natCast,List.length_map,xv,gr,br,q0,xR,lf',lo',lo1,lo0,ml',ms,ml,mg,lo,ro,m1l,List.map_cons,List.map_nil]
    ·have q0:(n5==0)=false:=by simpa using e0
     by_cases e1:n5=1
     ·have q1:(n5==1)=true:=by simpa using e1
      have ra:=XC a.rows r
      have mb:=Zbh hkr 5 r.length
      have ix:a.rows.length - 1 - (a.rows.length - 1 - k)=k:=by omega
      have il:(a.rows.length - 1 - k < a.rows.length)=True:=eq_true (by omega)
      refine ⟨[⟨a.nm,a.rows++[r]⟩,b],p+1+1+1+1+1,?_,by omega,by omega,hs.set 0 _ _ (by simp;omega) (fun r' h=>by
       rcases List.mem_append.1 h with h1 | h1
       ·exact hrr1 r' h1
       ·rw [List.mem_singleton] at h1;rw [h1];omega)⟩
      simp only [mxR,Zn] at ms ml mg lo mb ra
      rw [ZU]
      simp -implicitDefEqProofs only [go_sem,simprocAttr,Tryz.f7,xc,x0,x1,x2,x3,x4,xr,b0,sp,Zh,Zn,true_or,Zl,ZB,Zk,Zm,Int.toNat_natCast,List.length_map,xv,gr,br,q0,q1,rs1,ra,mb,ix,il,ms,ml,mg,lo,List.map_cons,List.map_nil,List.length_append,List.length_cons,List.length_nil]
     ·have q1:(n5==1)=false:=by simpa using e1
      by_cases e2:n5=2
      ·have q2:(n5==2)=true:=by simpa using e2
       have va:=Ja r Y3
       have rm2:((r.length+1)*33≤Zg)=True:=eq_true (by unfold Zg;omega)
       have mst:=Zdp a.rows k 5 r.length (r.length+1)
       have lf2:=fun h (hv:h[5]? = some (.rows 3 ((r++[Y3]).map vC) true))=>Yp h 5 (r++[Y3]) hv (by omega) a.rows k
       have lo2:=ZM a.rows k 5 (r.length+1) hkl
       have ml2:=Xq a.rows k 5 (r.length+1)
       refine ⟨[⟨a.nm,a.rows.set k (r++[Y3])⟩,b],p+1+1+1+1+1,?_,by omega,by omega,hs.set 0 _ _ (by rw [List.length_set];omega) (Yr hrr1 _ (by simp;omega))⟩
       simp only [mxR,vC,Y3,List.length_append,List.length_cons,List.length_nil,Nat.zero_add] at ms ml mg lo lf2 lo2 ml2 mst va
       rw [ZU]
       simp -implicitDefEqProofs only [go_sem,simprocAttr,Tryz.f7,xc,x0,x1,x2,x3,x4,xr,b0,sp,Zh,Zn,true_or,Zl,ZB,Zk,Zm,Int.toNat_natCast,List.length_map,xv,gr,br,q0,q1,q2,rm2,va,mst,lf2,ms,ml,mg,lo,lo2,ml2,Y3,List.map_cons,List.map_nil,List.length_append,List.length_cons,List.length_nil]
      ·have q2:(n5==2)=false:=by simpa using e2
       by_cases hr1:r.length=0
       ·have d1:(0 < (r.length:Int))=False:=eq_false (by omega)
        refine ⟨[⟨a.nm,a.rows.set k r⟩,b],p+1+1+1+1+1,?_,by omega,by omega,hs.set 0 _ _ (by rw [List.length_set];omega) (Yr hrr1 _ (by omega))⟩
        simp only [mxR] at ms ml mg lo lf
        rw [ZU]
        simp -implicitDefEqProofs only [go_sem,simprocAttr,Tryz.f7,xc,x0,x1,x2,x3,x4,xr,b0,sp,Zh,Zn,true_or,Zl,ZB,Zk,Zm,Int.toNat_natCast,List.length_map,xv,gr,br,q0,q1,q2,d1,lf,ms,ml,mg,lo,List.map_cons,List.map_nil]
       have d1:(0 < (r.length:Int))=True:=eq_true (by omega)
       have x6:=ZN h5 (by omega) (r.length:Int)
       have n6:=Zu L (p+1+1+1+1+1) (r.length:Int) (by omega) (by omega)
       obtain ⟨i,hi⟩:∃ i:Nat,Zw L (p+1+1+1+1+1) (r.length:Int)=(i:Int):=⟨(Zw L (p+1+1+1+1+1) (r.length:Int)).toNat,by omega⟩
       rw [hi] at x6 n6
       obtain ⟨y,p7,x7,b1,b2,_⟩:=ZfK (h5.step (p+1+1+1+1+1+1) (B - 6) (by omega) (by omega)) (by omega)
       obtain ⟨z,hz⟩:=Ze (l:=r) (i:=i) (by omega)
       have bz:(r.map vC)[i]? = some (vC z):=by simp [hz]
       have gz:=Z2 bz
       have vs:=Zdt r i y
       have lf2:=fun h (hv:h[5]? = some (.rows 3 ((r.set i y).map vC) true))=>Yp h 5 (r.set i y) hv (by omega) a.rows k
       rw [List.length_set] at lf2
       refine ⟨[⟨a.nm,a.rows.set k (r.set i y)⟩,b],p7,?_,by omega,by omega,hs.set 0 _ _ (by rw [List.length_set];omega) (Yr hrr1 _ (by rw [List.length_set];omega))⟩
       simp only [mxR,enc] at ms ml mg lo lf2 x7
       rw [ZU]
       simp -implicitDefEqProofs only [go_sem,simprocAttr,Tryz.f7,xc,x0,x1,x2,x3,x4,xr,b0,sp,Zh,Zn,true_or,Zl,ZB,Zk,Zm,Int.toNat_natCast,List.length_map,xv,gr,br,q0,q1,q2,d1,x6,x7,bz,gz,vs,lf2,ms,ml,mg,lo,List.map_cons,List.map_nil,List.length_set]
theorem ZnL (a b:Dat) (n:Nat) (hn:n≤100) (hs:Sm [a,b] n) {p B:Int} (hG:Gd L p B) (hB:100≤B) (hw:Zw L p 2=1) :
  ∃ (ds':List Dat) (p':Int),R K (.call 7 [.ptr 0 0,YF [a,b]] (St L p))=some (YF ds',St L p')∧p≤p'∧p'≤p+100∧Sm ds' (n+1):=by
 have xc:=JP [a,b] (by simp) (by simp)
 have x0:=ZN hG (by omega) 2
 rw [hw] at x0
 have x1:=Y5 (hG.step (p+1) (B - 1) (by omega) (by omega)) (by omega) 8
 have x2:=Y5 (hG.step (p+1+1) (B - 2) (by omega) (by omega)) (by omega) 8
 obtain ⟨hr,hrr⟩:=hs.2 b (by simp)
 have hrr1:∀ r∈b.rows,r.length≤n+1:=fun r h=>by have:=hrr r h;omega
 have xr:=X8 b.rows (by omega)
 have sp:∀ x y:AV,splice [x] 0 [y]=[y]:=fun _ _=>rfl
 simp only [YF,Zh,List.map_cons,List.map_nil,List.length_cons,List.length_nil,Nat.reduceAdd,Nat.zero_add] at xc ⊢
 cases f1:Zw L (p+1) 8==0 with
 | true =>
  rw [f1] at x1
  refine ⟨[a,⟨[122,122],b.rows⟩],p+1+1,?_,by omega,by omega,hs.set 1 _ _ (by omega) hrr1⟩
  rw [ZU]
  simp -implicitDefEqProofs only [go_sem,simprocAttr,Tryz.f7,xc,x0,x1,xr,Zh,true_or,Zl,ZB,Zk,Zm,List.map_cons,List.map_nil]
 | false =>
  rw [f1] at x1
  cases f2:Zw L (p+1+1) 8==0 with
  | true =>
   rw [f2] at x2
   refine ⟨[b],p+1+1+1,?_,by omega,by omega,hs.tail⟩
   rw [ZU]
   simp -implicitDefEqProofs only [go_sem,simprocAttr,Tryz.f7,xc,x0,x1,x2,xr,Zh,true_or,Zl,ZB,Zk,Zm,List.map_cons,List.map_nil]
  | false =>
   rw [f2] at x2
   by_cases hb:b.rows.length=0
   ·have hb:=List.eq_nil_of_length_eq_zero hb
    refine ⟨[a,⟨b.nm,[[]]⟩],p+1+1+1,?_,by omega,by omega,hs.set 1 _ _ (by simp) (by simp)⟩
    simp only [hb,List.map_nil,List.length_nil] at xr xc ⊢
    rw [ZU]
    simp -implicitDefEqProofs only [go_sem,simprocAttr,Tryz.f7,xc,x0,x1,x2,xr,Zh,Zn,true_or,Zl,ZB,Zk,Zm,List.map_cons,List.map_nil]
   ·have b0:(((b.rows.length:Nat):Int)==0)=false:=by
     rw [←Bool.not_eq_true,beq_iff_eq];omega
    have x3:=ZN (hG.step (p+1+1+1) (B - 3) (by omega) (by omega)) (by omega) (b.rows.length:Int)
    have n3:=Zu L (p+1+1+1) (b.rows.length:Int) (by omega) (by omega)
    obtain ⟨k,hk⟩:∃ k:Nat,Zw L (p+1+1+1) (b.rows.length:Int)=(k:Int):=⟨(Zw L (p+1+1+1) (b.rows.length:Int)).toNat,by omega⟩
    rw [hk] at x3 n3
    have hkl:k < b.rows.length:=by omega
    obtain ⟨r,hkr⟩:=Ze (l:=b.rows) (i:=k) hkl
    have hrl:=hrr r (List.mem_of_getElem? hkr)
    have gr:=Yj hkr
    have br:(b.rows.map Zn)[k]? = some (Zn r):=by simp [hkr]
    have x4:=ZN (hG.step (p+1+1+1+1) (B - 4) (by omega) (by omega)) (by omega) 5
    have h5:=hG.step (p+1+1+1+1+1) (B - 5) (by omega) (by omega)
    have se:=Wu b.rows k r
    rw [Q3 hkr] at se
    simp only [Zn] at gr br se
    generalize Zw L (p+1+1+1+1) 5=n5 at *
    have rs1:(((b.rows).length+1)*25≤Zg)=True:=eq_true (by unfold Zg;omega)
    have xv:=XD r (by omega)
    have ms:=Je hkl 5 r.length
    have ml:=Xq b.rows k 5 r.length
    have mg:=Z2 ms
    have lo:=ZM b.rows k 5 r.length hkl
    have ro:=JS
    have lf:=fun h (hv:h[5]? = some (.rows 3 (r.map vC) true))=>Yp h 5 r hv (by omega) b.rows k
    by_cases e0:n5=0
    ·have q0:(n5==0)=true:=by simpa using e0
     obtain ⟨rs',k',m1,m2,xR⟩:=Zdf b.rows k r.length r hkl (by omega)
     have lo':=ZM rs' k' 5 r.length (by rw [m1.1];exact m2)
     have lo1:=ZM rs' k' 1 r.length (by rw [m1.1];exact m2)
     have lo0:=ZM b.rows k 1 r.length hkl
     have ml':=Xq rs' k' 5 r.length
     have lf':=fun h (hv:h[5]? = some (.rows 3 (r.map vC) true))=>Yp h 5 r hv (by omega) rs' k'
     have m1l:=m1.1
     refine ⟨[a,⟨b.nm,rs'.set k' r⟩],p+1+1+1+1+1,?_,by omega,by omega,hs.set 1 _ _ (by rw [List.length_set,m1.1];omega) (Yr (fun r' h=>hrr1 r' (m1.2 r' h)) _ (by omega))⟩
     simp only [rvH,mxR] at xR lf' lo' lo1 lo0 ml' ms ml mg lo lf ro
     rw [ZU]
     simp -implicitDefEqProofs only [go_sem,simprocAttr,Tryz.f7,xc,x0,x1,x2,x3,x4,xr,b0,sp,Zh,Zn,true_or,Zl,ZB,Zk,Zm,Int.toNat_natCast,List.length_map,xv,gr,br,q0,xR,lf',lo',lo1,lo0,ml',ms,ml,mg,lo,ro,m1l,List.map_cons,List.map_nil]
    ·have q0:(n5==0)=false:=by simpa using e0
     by_cases e1:n5=1
     ·have q1:(n5==1)=true:=by simpa using e1
      have ra:=XC b.rows r
      have mb:=Zbh hkr 5 r.length
      have ix:b.rows.length - 1 - (b.rows.length - 1 - k)=k:=by omega
      have il:(b.rows.length - 1 - k < b.rows.length)=True:=eq_true (by omega)
      refine ⟨[a,⟨b.nm,b.rows++[r]⟩],p+1+1+1+1+1,?_,by omega,by omega,hs.set 1 _ _ (by simp;omega) (fun r' h=>by
       rcases List.mem_append.1 h with h1 | h1
       ·exact hrr1 r' h1
       ·rw [List.mem_singleton] at h1;rw [h1];omega)⟩
      simp only [mxR,Zn] at ms ml mg lo mb ra
      rw [ZU]
      simp -implicitDefEqProofs only [go_sem,simprocAttr,Tryz.f7,xc,x0,x1,x2,x3,x4,xr,b0,sp,Zh,Zn,true_or,Zl,ZB,Zk,Zm,Int.toNat_natCast,List.length_map,xv,gr,br,q0,q1,rs1,ra,mb,ix,il,ms,ml,mg,lo,List.map_cons,List.map_nil,List.length_append,List.length_cons,List.length_nil]
     ·have q1:(n5==1)=false:=by simpa using e1
      by_cases e2:n5=2
      ·have q2:(n5==2)=true:=by simpa using e2
       have va:=Ja r Y3
       have rm2:((r.length+1)*33≤Zg)=True:=eq_true (by unfold Zg;omega)
       have mst:=Zdp b.rows k 5 r.length (r.length+1)
       have lf2:=fun h (hv:h[5]? = some (.rows 3 ((r++[Y3]).map vC) true))=>Yp h 5 (r++[Y3]) hv (by omega) b.rows k
       have lo2:=ZM b.rows k 5 (r.length+1) hkl
       have ml2:=Xq b.rows k 5 (r.length+1)
       refine ⟨[a,⟨b.nm,b.rows.set k (r++[Y3])⟩],p+1+1+1+1+1,?_,by omega,by omega,hs.set 1 _ _ (by rw [List.length_set];omega) (Yr hrr1 _ (by simp;omega))⟩
       simp only [mxR,vC,Y3,List.length_append,List.length_cons,List.length_nil,Nat.zero_add] at ms ml mg lo lf2 lo2 ml2 mst va
       rw [ZU]
       simp -implicitDefEqProofs only [go_sem,simprocAttr,Tryz.f7,xc,x0,x1,x2,x3,x4,xr,b0,sp,Zh,Zn,true_or,Zl,ZB,Zk,Zm,Int.toNat_natCast,List.length_map,xv,gr,br,q0,q1,q2,rm2,va,mst,lf2,ms,ml,mg,lo,lo2,ml2,Y3,List.map_cons,List.map_nil,List.length_append,List.length_cons,List.length_nil]
      ·have q2:(n5==2)=false:=by simpa using e2
       by_cases hr1:r.length=0
       ·have d1:(0 < (r.length:Int))=False:=eq_false (by omega)
        refine ⟨[a,⟨b.nm,b.rows.set k r⟩],p+1+1+1+1+1,?_,by omega,by omega,hs.set 1 _ _ (by rw [List.length_set];omega) (Yr hrr1 _ (by omega))⟩
        simp only [mxR] at ms ml mg lo lf
        rw [ZU]
        simp -implicitDefEqProofs only [go_sem,simprocAttr,Tryz.f7,xc,x0,x1,x2,x3,x4,xr,b0,sp,Zh,Zn,true_or,Zl,ZB,Zk,Zm,Int.toNat_natCast,List.length_map,xv,gr,br,q0,q1,q2,d1,lf,ms,ml,mg,lo,List.map_cons,List.map_nil]
       have d1:(0 < (r.length:Int))=True:=eq_true (by omega)
       have x6:=ZN h5 (by omega) (r.length:Int)
       have n6:=Zu L (p+1+1+1+1+1) (r.length:Int) (by omega) (by omega)
       obtain ⟨i,hi⟩:∃ i:Nat,Zw L (p+1+1+1+1+1) (r.length:Int)=(i:Int):=⟨(Zw L (p+1+1+1+1+1) (r.length:Int)).toNat,by omega⟩
       rw [hi] at x6 n6
       obtain ⟨y,p7,x7,b1,b2,_⟩:=ZfK (h5.step (p+1+1+1+1+1+1) (B - 6) (by omega) (by omega)) (by omega)
       obtain ⟨z,hz⟩:=Ze (l:=r) (i:=i) (by omega)
       have bz:(r.map vC)[i]? = some (vC z):=by simp [hz]
       have gz:=Z2 bz
       have vs:=Zdt r i y
       have lf2:=fun h (hv:h[5]? = some (.rows 3 ((r.set i y).map vC) true))=>Yp h 5 (r.set i y) hv (by omega) b.rows k
       rw [List.length_set] at lf2
       refine ⟨[a,⟨b.nm,b.rows.set k (r.set i y)⟩],p7,?_,by omega,by omega,hs.set 1 _ _ (by rw [List.length_set];omega) (Yr hrr1 _ (by rw [List.length_set];omega))⟩
       simp only [mxR,enc] at ms ml mg lo lf2 x7
       rw [ZU]
       simp -implicitDefEqProofs only [go_sem,simprocAttr,Tryz.f7,xc,x0,x1,x2,x3,x4,xr,b0,sp,Zh,Zn,true_or,Zl,ZB,Zk,Zm,Int.toNat_natCast,List.length_map,xv,gr,br,q0,q1,q2,d1,x6,x7,bz,gz,vs,lf2,ms,ml,mg,lo,List.map_cons,List.map_nil,List.length_set]
theorem ZnQ (a b c:Dat) (n:Nat) (hn:n≤100) (hs:Sm [a,b,c] n) {p B:Int} (hG:Gd L p B) (hB:100≤B) (hw:Zw L p 3=0) :
  ∃ (ds':List Dat) (p':Int),R K (.call 7 [.ptr 0 0,YF [a,b,c]] (St L p))=some (YF ds',St L p')∧p≤p'∧p'≤p+100∧Sm ds' (n+1):=by
 have xc:=JP [a,b,c] (by simp) (by simp)
 have x0:=ZN hG (by omega) 3
 rw [hw] at x0
 have x1:=Y5 (hG.step (p+1) (B - 1) (by omega) (by omega)) (by omega) 8
 have x2:=Y5 (hG.step (p+1+1) (B - 2) (by omega) (by omega)) (by omega) 8
 obtain ⟨hr,hrr⟩:=hs.2 a (by simp)
 have hrr1:∀ r∈a.rows,r.length≤n+1:=fun r h=>by have:=hrr r h;omega
 have xr:=X8 a.rows (by omega)
 have sp:∀ x y:AV,splice [x] 0 [y]=[y]:=fun _ _=>rfl
 simp only [YF,Zh,List.map_cons,List.map_nil,List.length_cons,List.length_nil,Nat.reduceAdd,Nat.zero_add] at xc ⊢
 cases f1:Zw L (p+1) 8==0 with
 | true =>
  rw [f1] at x1
  refine ⟨[⟨[122,122],a.rows⟩,b,c],p+1+1,?_,by omega,by omega,hs.set 0 _ _ (by omega) hrr1⟩
  rw [ZU]
  simp -implicitDefEqProofs only [go_sem,simprocAttr,Tryz.f7,xc,x0,x1,xr,Zh,true_or,Zl,ZB,Zk,Zm,List.map_cons,List.map_nil]
 | false =>
  rw [f1] at x1
  cases f2:Zw L (p+1+1) 8==0 with
  | true =>
   rw [f2] at x2
   refine ⟨[b,c],p+1+1+1,?_,by omega,by omega,hs.tail⟩
   rw [ZU]
   simp -implicitDefEqProofs only [go_sem,simprocAttr,Tryz.f7,xc,x0,x1,x2,xr,Zh,true_or,Zl,ZB,Zk,Zm,List.map_cons,List.map_nil]
  | false =>
   rw [f2] at x2
   by_cases hb:a.rows.length=0
   ·have hb:=List.eq_nil_of_length_eq_zero hb
    refine ⟨[⟨a.nm,[[]]⟩,b,c],p+1+1+1,?_,by omega,by omega,hs.set 0 _ _ (by simp) (by simp)⟩
    simp only [hb,List.map_nil,List.length_nil] at xr xc ⊢
    rw [ZU]
    simp -implicitDefEqProofs only [go_sem,simprocAttr,Tryz.f7,xc,x0,x1,x2,xr,Zh,Zn,true_or,Zl,ZB,Zk,Zm,List.map_cons,List.map_nil]
   ·have b0:(((a.rows.length:Nat):Int)==0)=false:=by
     rw [←Bool.not_eq_true,beq_iff_eq];omega
    have x3:=ZN (hG.step (p+1+1+1) (B - 3) (by omega) (by omega)) (by omega) (a.rows.length:Int)
    have n3:=Zu L (p+1+1+1) (a.rows.length:Int) (by omega) (by omega)
    obtain ⟨k,hk⟩:∃ k:Nat,Zw L (p+1+1+1) (a.rows.length:Int)=(k:Int):=⟨(Zw L (p+1+1+1) (a.rows.length:Int)).toNat,by omega⟩
    rw [hk] at x3 n3
    have hkl:k < a.rows.length:=by omega
    obtain ⟨r,hkr⟩:=Ze (l:=a.rows) (i:=k) hkl
    have hrl:=hrr r (List.mem_of_getElem? hkr)
    have gr:=Yj hkr
    have br:(a.rows.map Zn)[k]? = some (Zn r):=by simp [hkr]
    have x4:=ZN (hG.step (p+1+1+1+1) (B - 4) (by omega) (by omega)) (by omega) 5
    have h5:=hG.step (p+1+1+1+1+1) (B - 5) (by omega) (by omega)
    have se:=Wu a.rows k r
    rw [Q3 hkr] at se
    simp only [Zn] at gr br se
    generalize Zw L (p+1+1+1+1) 5=n5 at *
    have rs1:(((a.rows).length+1)*25≤Zg)=True:=eq_true (by unfold Zg;omega)
    have xv:=XD r (by omega)
    have ms:=Je hkl 5 r.length
    have ml:=Xq a.rows k 5 r.length
    have mg:=Z2 ms
    have lo:=ZM a.rows k 5 r.length hkl
    have ro:=JS
    have lf:=fun h (hv:h[5]? = some (.rows 3 (r.map vC) true))=>Yp h 5 r hv (by omega) a.rows k
    by_cases e0:n5=0
    ·have q0:(n5==0)=true:=by simpa using e0
     obtain ⟨rs',k',m1,m2,xR⟩:=Zdf a.rows k r.length r hkl (by omega)
     have lo':=ZM rs' k' 5 r.length (by rw [m1.1];exact m2)
     have lo1:=ZM rs' k' 1 r.length (by rw [m1.1];exact m2)
     have lo0:=ZM a.rows k 1 r.length hkl
     have ml':=Xq rs' k' 5 r.length
     have lf':=fun h (hv:h[5]? = some (.rows 3 (r.map vC) true))=>Yp h 5 r hv (by omega) rs' k'
     have m1l:=m1.1
     refine ⟨[⟨a.nm,rs'.set k' r⟩,b,c],p+1+1+1+1+1,?_,by omega,by omega,hs.set 0 _ _ (by rw [List.length_set,m1.1];omega) (Yr (fun r' h=>hrr1 r' (m1.2 r' h)) _ (by omega))⟩
     simp only [rvH,mxR] at xR lf' lo' lo1 lo0 ml' ms ml mg lo lf ro
     rw [ZU]
     simp -implicitDefEqProofs only [go_sem,simprocAttr,Tryz.f7,xc,x0,x1,x2,x3,x4,xr,b0,sp,Zh,Zn,true_or,Zl,ZB,Zk,Zm,Int.toNat_natCast,List.length_map,xv,gr,br,q0,xR,lf',lo',lo1,lo0,ml',ms,ml,mg,lo,ro,m1l,List.map_cons,List.map_nil]
    ·have q0:(n5==0)=false:=by simpa using e0
     by_cases e1:n5=1
     ·have q1:(n5==1)=true:=by simpa using e1
      have ra:=XC a.rows r
      have mb:=Zbh hkr 5 r.length
      have ix:a.rows.length - 1 - (a.rows.length - 1 - k)=k:=by omega
      have il:(a.rows.length - 1 - k < a.rows.length)=True:=eq_true (by omega)
      refine ⟨[⟨a.nm,a.rows++[r]⟩,b,c],p+1+1+1+1+1,?_,by omega,by omega,hs.set 0 _ _ (by simp;omega) (fun r' h=>by
       rcases List.mem_append.1 h with h1 | h1
       ·exact hrr1 r' h1
       ·rw [List.mem_singleton] at h1;rw [h1];omega)⟩
      simp only [mxR,Zn] at ms ml mg lo mb ra
      rw [ZU]
      simp -implicitDefEqProofs only [go_sem,simprocAttr,Tryz.f7,xc,x0,x1,x2,x3,x4,xr,b0,sp,Zh,Zn,true_or,Zl,ZB,Zk,Zm,Int.toNat_natCast,List.length_map,xv,gr,br,q0,q1,rs1,ra,mb,ix,il,ms,ml,mg,lo,List.map_cons,List.map_nil,List.length_append,List.length_cons,List.length_nil]
     ·have q1:(n5==1)=false:=by simpa using e1
      by_cases e2:n5=2
      ·have q2:(n5==2)=true:=by simpa using e2
       have va:=Ja r Y3
       have rm2:((r.length+1)*33≤Zg)=True:=eq_true (by unfold Zg;omega)
       have mst:=Zdp a.rows k 5 r.length (r.length+1)
       have lf2:=fun h (hv:h[5]? = some (.rows 3 ((r++[Y3]).map vC) true))=>Yp h 5 (r++[Y3]) hv (by omega) a.rows k
       have lo2:=ZM a.rows k 5 (r.length+1) hkl
       have ml2:=Xq a.rows k 5 (r.length+1)
       refine ⟨[⟨a.nm,a.rows.set k (r++[Y3])⟩,b,c],p+1+1+1+1+1,?_,by omega,by omega,hs.set 0 _ _ (by rw [List.length_set];omega) (Yr hrr1 _ (by simp;omega))⟩
       simp only [mxR,vC,Y3,List.length_append,List.length_cons,List.length_nil,Nat.zero_add] at ms ml mg lo lf2 lo2 ml2 mst va
       rw [ZU]
       simp -implicitDefEqProofs only [go_sem,simprocAttr,Tryz.f7,xc,x0,x1,x2,x3,x4,xr,b0,sp,Zh,Zn,true_or,Zl,ZB,Zk,Zm,Int.toNat_natCast,List.length_map,xv,gr,br,q0,q1,q2,rm2,va,mst,lf2,ms,ml,mg,lo,lo2,ml2,Y3,List.map_cons,List.map_nil,List.length_append,List.length_cons,List.length_nil]
      ·have q2:(n5==2)=false:=by simpa using e2
       by_cases hr1:r.length=0
       ·have d1:(0 < (r.length:Int))=False:=eq_false (by omega)
        refine ⟨[⟨a.nm,a.rows.set k r⟩,b,c],p+1+1+1+1+1,?_,by omega,by omega,hs.set 0 _ _ (by rw [List.length_set];omega) (Yr hrr1 _ (by omega))⟩
        simp only [mxR] at ms ml mg lo lf
        rw [ZU]
        simp -implicitDefEqProofs only [go_sem,simprocAttr,Tryz.f7,xc,x0,x1,x2,x3,x4,xr,b0,sp,Zh,Zn,true_or,Zl,ZB,Zk,Zm,Int.toNat_natCast,List.length_map,xv,gr,br,q0,q1,q2,d1,lf,ms,ml,mg,lo,List.map_cons,List.map_nil]
       have d1:(0 < (r.length:Int))=True:=eq_true (by omega)
       have x6:=ZN h5 (by omega) (r.length:Int)
       have n6:=Zu L (p+1+1+1+1+1) (r.length:Int) (by omega) (by omega)
       obtain ⟨i,hi⟩:∃ i:Nat,Zw L (p+1+1+1+1+1) (r.length:Int)=(i:Int):=⟨(Zw L (p+1+1+1+1+1) (r.length:Int)).toNat,by omega⟩
       rw [hi] at x6 n6
       obtain ⟨y,p7,x7,b1,b2,_⟩:=ZfK (h5.step (p+1+1+1+1+1+1) (B - 6) (by omega) (by omega)) (by omega)
       obtain ⟨z,hz⟩:=Ze (l:=r) (i:=i) (by omega)
       have bz:(r.map vC)[i]? = some (vC z):=by simp [hz]
       have gz:=Z2 bz
       have vs:=Zdt r i y
       have lf2:=fun h (hv:h[5]? = some (.rows 3 ((r.set i y).map vC) true))=>Yp h 5 (r.set i y) hv (by omega) a.rows k
       rw [List.length_set] at lf2
       refine ⟨[⟨a.nm,a.rows.set k (r.set i y)⟩,b,c],p7,?_,by omega,by omega,hs.set 0 _ _ (by rw [List.length_set];omega) (Yr hrr1 _ (by rw [List.length_set];omega))⟩
       simp only [mxR,enc] at ms ml mg lo lf2 x7
       rw [ZU]
       simp -implicitDefEqProofs only [go_sem,simprocAttr,Tryz.f7,xc,x0,x1,x2,x3,x4,xr,b0,sp,Zh,Zn,true_or,Zl,ZB,Zk,Zm,Int.toNat_natCast,List.length_map,xv,gr,br,q0,q1,q2,d1,x6,x7,bz,gz,vs,lf2,ms,ml,mg,lo,List.map_cons,List.map_nil,List.length_set]
theorem ZnC (a b c:Dat) (n:Nat) (hn:n≤100) (hs:Sm [a,b,c] n) {p B:Int} (hG:Gd L p B) (hB:100≤B) (hw:Zw L p 3=1) :
  ∃ (ds':List Dat) (p':Int),R K (.call 7 [.ptr 0 0,YF [a,b,c]] (St L p))=some (YF ds',St L p')∧p≤p'∧p'≤p+100∧Sm ds' (n+1):=by
 have xc:=JP [a,b,c] (by simp) (by simp)
 have x0:=ZN hG (by omega) 3
 rw [hw] at x0
 have x1:=Y5 (hG.step (p+1) (B - 1) (by omega) (by omega)) (by omega) 8
 have x2:=Y5 (hG.step (p+1+1) (B - 2) (by omega) (by omega)) (by omega) 8
 obtain ⟨hr,hrr⟩:=hs.2 b (by simp)
 have hrr1:∀ r∈b.rows,r.length≤n+1:=fun r h=>by have:=hrr r h;omega
 have xr:=X8 b.rows (by omega)
 have sp:∀ x y:AV,splice [x] 0 [y]=[y]:=fun _ _=>rfl
 simp only [YF,Zh,List.map_cons,List.map_nil,List.length_cons,List.length_nil,Nat.reduceAdd,Nat.zero_add] at xc ⊢
 cases f1:Zw L (p+1) 8==0 with
 | true =>
  rw [f1] at x1
  refine ⟨[a,⟨[122,122],b.rows⟩,c],p+1+1,?_,by omega,by omega,hs.set 1 _ _ (by omega) hrr1⟩
  rw [ZU]
  simp -implicitDefEqProofs only [go_sem,simprocAttr,Tryz.f7,xc,x0,x1,xr,Zh,true_or,Zl,ZB,Zk,Zm,List.map_cons,List.map_nil]
 | false =>
  rw [f1] at x1
  cases f2:Zw L (p+1+1) 8==0 with
  | true =>
   rw [f2] at x2
   refine ⟨[b,c],p+1+1+1,?_,by omega,by omega,hs.tail⟩
   rw [ZU]
   simp -implicitDefEqProofs only [go_sem,simprocAttr,Tryz.f7,xc,x0,x1,x2,xr,Zh,true_or,Zl,ZB,Zk,Zm,List.map_cons,List.map_nil]
  | false =>
   rw [f2] at x2
   by_cases hb:b.rows.length=0
   ·have hb:=List.eq_nil_of_length_eq_zero hb
    refine ⟨[a,⟨b.nm,[[]]⟩,c],p+1+1+1,?_,by omega,by omega,hs.set 1 _ _ (by simp) (by simp)⟩
    simp only [hb,List.map_nil,List.length_nil] at xr xc ⊢
    rw [ZU]
    simp -implicitDefEqProofs only [go_sem,simprocAttr,Tryz.f7,xc,x0,x1,x2,xr,Zh,Zn,true_or,Zl,ZB,Zk,Zm,List.map_cons,List.map_nil]
   ·have b0:(((b.rows.length:Nat):Int)==0)=false:=by
     rw [←Bool.not_eq_true,beq_iff_eq];omega
    have x3:=ZN (hG.step (p+1+1+1) (B - 3) (by omega) (by omega)) (by omega) (b.rows.length:Int)
    have n3:=Zu L (p+1+1+1) (b.rows.length:Int) (by omega) (by omega)
    obtain ⟨k,hk⟩:∃ k:Nat,Zw L (p+1+1+1) (b.rows.length:Int)=(k:Int):=⟨(Zw L (p+1+1+1) (b.rows.length:Int)).toNat,by omega⟩
    rw [hk] at x3 n3
    have hkl:k < b.rows.length:=by omega
    obtain ⟨r,hkr⟩:=Ze (l:=b.rows) (i:=k) hkl
    have hrl:=hrr r (List.mem_of_getElem? hkr)
    have gr:=Yj hkr
    have br:(b.rows.map Zn)[k]? = some (Zn r):=by simp [hkr]
    have x4:=ZN (hG.step (p+1+1+1+1) (B - 4) (by omega) (by omega)) (by omega) 5
    have h5:=hG.step (p+1+1+1+1+1) (B - 5) (by omega) (by omega)
    have se:=Wu b.rows k r
    rw [Q3 hkr] at se
    simp only [Zn] at gr br se
    generalize Zw L (p+1+1+1+1) 5=n5 at *
    have rs1:(((b.rows).length+1)*25≤Zg)=True:=eq_true (by unfold Zg;omega)
    have xv:=XD r (by omega)
    have ms:=Je hkl 5 r.length
    have ml:=Xq b.rows k 5 r.length
    have mg:=Z2 ms
    have lo:=ZM b.rows k 5 r.length hkl
    have ro:=JS
    have lf:=fun h (hv:h[5]? = some (.rows 3 (r.map vC) true))=>Yp h 5 r hv (by omega) b.rows k
    by_cases e0:n5=0
    ·have q0:(n5==0)=true:=by simpa using e0
     obtain ⟨rs',k',m1,m2,xR⟩:=Zdf b.rows k r.length r hkl (by omega)
     have lo':=ZM rs' k' 5 r.length (by rw [m1.1];exact m2)
     have lo1:=ZM rs' k' 1 r.length (by rw [m1.1];exact m2)
     have lo0:=ZM b.rows k 1 r.length hkl
     have ml':=Xq rs' k' 5 r.length
     have lf':=fun h (hv:h[5]? = some (.rows 3 (r.map vC) true))=>Yp h 5 r hv (by omega) rs' k'
     have m1l:=m1.1
     refine ⟨[a,⟨b.nm,rs'.set k' r⟩,c],p+1+1+1+1+1,?_,by omega,by omega,hs.set 1 _ _ (by rw [List.length_set,m1.1];omega) (Yr (fun r' h=>hrr1 r' (m1.2 r' h)) _ (by omega))⟩
     simp only [rvH,mxR] at xR lf' lo' lo1 lo0 ml' ms ml mg lo lf ro
     rw [ZU]
     simp -implicitDefEqProofs only [go_sem,simprocAttr,Tryz.f7,xc,x0,x1,x2,x3,x4,xr,b0,sp,Zh,Zn,true_or,Zl,ZB,Zk,Zm,Int.toNat_natCast,List.length_map,xv,gr,br,q0,xR,lf',lo',lo1,lo0,ml',ms,ml,mg,lo,ro,m1l,List.map_cons,List.map_nil]
    ·have q0:(n5==0)=false:=by simpa using e0
     by_cases e1:n5=1
     ·have q1:(n5==1)=true:=by simpa using e1
      have ra:=XC b.rows r
      have mb:=Zbh hkr 5 r.length
      have ix:b.rows.length - 1 - (b.rows.length - 1 - k)=k:=by omega
      have il:(b.rows.length - 1 - k < b.rows.length)=True:=eq_true (by omega)
      refine ⟨[a,⟨b.nm,b.rows++[r]⟩,c],p+1+1+1+1+1,?_,by omega,by omega,hs.set 1 _ _ (by simp;omega) (fun r' h=>by
       rcases List.mem_append.1 h with h1 | h1
       ·exact hrr1 r' h1
       ·rw [List.mem_singleton] at h1;rw [h1];omega)⟩
      simp only [mxR,Zn] at ms ml mg lo mb ra
      rw [ZU]
      simp -implicitDefEqProofs only [go_sem,simprocAttr,Tryz.f7,xc,x0,x1,x2,x3,x4,xr,b0,sp,Zh,Zn,true_or,Zl,ZB,Zk,Zm,Int.toNat_natCast,List.length_map,xv,gr,br,q0,q1,rs1,ra,mb,ix,il,ms,ml,mg,lo,List.map_cons,List.map_nil,List.length_append,List.length_cons,List.length_nil]
     ·have q1:(n5==1)=false:=by simpa using e1
      by_cases e2:n5=2
      ·have q2:(n5==2)=true:=by simpa using e2
       have va:=Ja r Y3
       have rm2:((r.length+1)*33≤Zg)=True:=eq_true (by unfold Zg;omega)
       have mst:=Zdp b.rows k 5 r.length (r.length+1)
       have lf2:=fun h (hv:h[5]? = some (.rows 3 ((r++[Y3]).map vC) true))=>Yp h 5 (r++[Y3]) hv (by omega) b.rows k
       have lo2:=ZM b.rows k 5 (r.length+1) hkl
       have ml2:=Xq b.rows k 5 (r.length+1)
       refine ⟨[a,⟨b.nm,b.rows.set k (r++[Y3])⟩,c],p+1+1+1+1+1,?_,by omega,by omega,hs.set 1 _ _ (by rw [List.length_set];omega) (Yr hrr1 _ (by simp;omega))⟩
       simp only [mxR,vC,Y3,List.length_append,List.length_cons,List.length_nil,Nat.zero_add] at ms ml mg lo lf2 lo2 ml2 mst va
       rw [ZU]
       simp -implicitDefEqProofs only [go_sem,simprocAttr,Tryz.f7,xc,x0,x1,x2,x3,x4,xr,b0,sp,Zh,Zn,true_or,Zl,ZB,Zk,Zm,Int.toNat_natCast,List.length_map,xv,gr,br,q0,q1,q2,rm2,va,mst,lf2,ms,ml,mg,lo,lo2,ml2,Y3,List.map_cons,List.map_nil,List.length_append,List.length_cons,List.length_nil]
      ·have q2:(n5==2)=false:=by simpa using e2
       by_cases hr1:r.length=0
       ·have d1:(0 < (r.length:Int))=False:=eq_false (by omega)
        refine ⟨[a,⟨b.nm,b.rows.set k r⟩,c],p+1+1+1+1+1,?_,by omega,by omega,hs.set 1 _ _ (by rw [List.length_set];omega) (Yr hrr1 _ (by omega))⟩
        simp only [mxR] at ms ml mg lo lf
        rw [ZU]
        simp -implicitDefEqProofs only [go_sem,simprocAttr,Tryz.f7,xc,x0,x1,x2,x3,x4,xr,b0,sp,Zh,Zn,true_or,Zl,ZB,Zk,Zm,Int.toNat_natCast,List.length_map,xv,gr,br,q0,q1,q2,d1,lf,ms,ml,mg,lo,List.map_cons,List.map_nil]
       have d1:(0 < (r.length:Int))=True:=eq_true (by omega)
       have x6:=ZN h5 (by omega) (r.length:Int)
       have n6:=Zu L (p+1+1+1+1+1) (r.length:Int) (by omega) (by omega)
       obtain ⟨i,hi⟩:∃ i:Nat,Zw L (p+1+1+1+1+1) (r.length:Int)=(i:Int):=⟨(Zw L (p+1+1+1+1+1) (r.length:Int)).toNat,by omega⟩
       rw [hi] at x6 n6
       obtain ⟨y,p7,x7,b1,b2,_⟩:=ZfK (h5.step (p+1+1+1+1+1+1) (B - 6) (by omega) (by omega)) (by omega)
       obtain ⟨z,hz⟩:=Ze (l:=r) (i:=i) (by omega)
       have bz:(r.map vC)[i]? = some (vC z):=by simp [hz]
       have gz:=Z2 bz
       have vs:=Zdt r i y
       have lf2:=fun h (hv:h[5]? = some (.rows 3 ((r.set i y).map vC) true))=>Yp h 5 (r.set i y) hv (by omega) b.rows k
       rw [List.length_set] at lf2
       refine ⟨[a,⟨b.nm,b.rows.set k (r.set i y)⟩,c],p7,?_,by omega,by omega,hs.set 1 _ _ (by rw [List.length_set];omega) (Yr hrr1 _ (by rw [List.length_set];omega))⟩
       simp only [mxR,enc] at ms ml mg lo lf2 x7
       rw [ZU]
       simp -implicitDefEqProofs only [go_sem,simprocAttr,Tryz.f7,xc,x0,x1,x2,x3,x4,xr,b0,sp,Zh,Zn,true_or,Zl,ZB,Zk,Zm,Int.toNat_natCast,List.length_map,xv,gr,br,q0,q1,q2,d1,x6,x7,bz,gz,vs,lf2,ms,ml,mg,lo,List.map_cons,List.map_nil,List.length_set]
theorem Zn3 (a b c:Dat) (n:Nat) (hn:n≤100) (hs:Sm [a,b,c] n) {p B:Int} (hG:Gd L p B) (hB:100≤B) (hw:Zw L p 3=2) :
  ∃ (ds':List Dat) (p':Int),R K (.call 7 [.ptr 0 0,YF [a,b,c]] (St L p))=some (YF ds',St L p')∧p≤p'∧p'≤p+100∧Sm ds' (n+1):=by
 have xc:=JP [a,b,c] (by simp) (by simp)
 have x0:=ZN hG (by omega) 3
 rw [hw] at x0
 have x1:=Y5 (hG.step (p+1) (B - 1) (by omega) (by omega)) (by omega) 8
 have x2:=Y5 (hG.step (p+1+1) (B - 2) (by omega) (by omega)) (by omega) 8
 obtain ⟨hr,hrr⟩:=hs.2 c (by simp)
 have hrr1:∀ r∈c.rows,r.length≤n+1:=fun r h=>by have:=hrr r h;omega
 have xr:=X8 c.rows (by omega)
 have sp:∀ x y:AV,splice [x] 0 [y]=[y]:=fun _ _=>rfl
 simp only [YF,Zh,List.map_cons,List.map_nil,List.length_cons,List.length_nil,Nat.reduceAdd,Nat.zero_add] at xc ⊢
 cases f1:Zw L (p+1) 8==0 with
 | true =>
  rw [f1] at x1
  refine ⟨[a,b,⟨[122,122],c.rows⟩],p+1+1,?_,by omega,by omega,hs.set 2 _ _ (by omega) hrr1⟩
  rw [ZU]
  simp -implicitDefEqProofs only [go_sem,simprocAttr,Tryz.f7,xc,x0,x1,xr,Zh,true_or,Zl,ZB,Zk,Zm,List.map_cons,List.map_nil]
 | false =>
  rw [f1] at x1
  cases f2:Zw L (p+1+1) 8==0 with
  | true =>
   rw [f2] at x2
   refine ⟨[b,c],p+1+1+1,?_,by omega,by omega,hs.tail⟩
   rw [ZU]
   simp -implicitDefEqProofs only [go_sem,simprocAttr,Tryz.f7,xc,x0,x1,x2,xr,Zh,true_or,Zl,ZB,Zk,Zm,List.map_cons,List.map_nil]
  | false =>
   rw [f2] at x2
   by_cases hb:c.rows.length=0
   ·have hb:=List.eq_nil_of_length_eq_zero hb
    refine ⟨[a,b,⟨c.nm,[[]]⟩],p+1+1+1,?_,by omega,by omega,hs.set 2 _ _ (by simp) (by simp)⟩
    simp only [hb,List.map_nil,List.length_nil] at xr xc ⊢
    rw [ZU]
    simp -implicitDefEqProofs only [go_sem,simprocAttr,Tryz.f7,xc,x0,x1,x2,xr,Zh,Zn,true_or,Zl,ZB,Zk,Zm,List.map_cons,List.map_nil]
   ·have b0:(((c.rows.length:Nat):Int)==0)=false:=by
     rw [←Bool.not_eq_true,beq_iff_eq];omega
    have x3:=ZN (hG.step (p+1+1+1) (B - 3) (by omega) (by omega)) (by omega) (c.rows.length:Int)
    have n3:=Zu L (p+1+1+1) (c.rows.length:Int) (by omega) (by omega)
    obtain ⟨k,hk⟩:∃ k:Nat,Zw L (p+1+1+1) (c.rows.length:Int)=(k:Int):=⟨(Zw L (p+1+1+1) (c.rows.length:Int)).toNat,by omega⟩
    rw [hk] at x3 n3
    have hkl:k < c.rows.length:=by omega
    obtain ⟨r,hkr⟩:=Ze (l:=c.rows) (i:=k) hkl
    have hrl:=hrr r (List.mem_of_getElem? hkr)
    have gr:=Yj hkr
    have br:(c.rows.map Zn)[k]? = some (Zn r):=by simp [hkr]
    have x4:=ZN (hG.step (p+1+1+1+1) (B - 4) (by omega) (by omega)) (by omega) 5
    have h5:=hG.step (p+1+1+1+1+1) (B - 5) (by omega) (by omega)
    have se:=Wu c.rows k r
    rw [Q3 hkr] at se
    simp only [Zn] at gr br se
    generalize Zw L (p+1+1+1+1) 5=n5 at *
    have rs1:(((c.rows).length+1)*25≤Zg)=True:=eq_true (by unfold Zg;omega)
    have xv:=XD r (by omega)
    have ms:=Je hkl 5 r.length
    have ml:=Xq c.rows k 5 r.length
    have mg:=Z2 ms
    have lo:=ZM c.rows k 5 r.length hkl
    have ro:=JS
    have lf:=fun h (hv:h[5]? = some (.rows 3 (r.map vC) true))=>Yp h 5 r hv (by omega) c.rows k
    by_cases e0:n5=0
    ·have q0:(n5==0)=true:=by simpa using e0
     obtain ⟨rs',k',m1,m2,xR⟩:=Zdf c.rows k r.length r hkl (by omega)
     have lo':=ZM rs' k' 5 r.length (by rw [m1.1];exact m2)
     have lo1:=ZM rs' k' 1 r.length (by rw [m1.1];exact m2)
     have lo0:=ZM c.rows k 1 r.length hkl
     have ml':=Xq rs' k' 5 r.length
     have lf':=fun h (hv:h[5]? = some (.rows 3 (r.map vC) true))=>Yp h 5 r hv (by omega) rs' k'
     have m1l:=m1.1
     refine ⟨[a,b,⟨c.nm,rs'.set k' r⟩],p+1+1+1+1+1,?_,by omega,by omega,hs.set 2 _ _ (by rw [List.length_set,m1.1];omega) (Yr (fun r' h=>hrr1 r' (m1.2 r' h)) _ (by omega))⟩
     simp only [rvH,mxR] at xR lf' lo' lo1 lo0 ml' ms ml mg lo lf ro
     rw [ZU]
     simp -implicitDefEqProofs only [go_sem,simprocAttr,Tryz.f7,xc,x0,x1,x2,x3,x4,xr,b0,sp,Zh,Zn,true_or,Zl,ZB,Zk,Zm,Int.toNat_natCast,List.length_map,xv,gr,br,q0,xR,lf',lo',lo1,lo0,ml',ms,ml,mg,lo,ro,m1l,List.map_cons,List.map_nil]
    ·have q0:(n5==0)=false:=by simpa using e0
     by_cases e1:n5=1
     ·have q1:(n5==1)=true:=by simpa using e1
      have ra:=XC c.rows r
      have mb:=Zbh hkr 5 r.length
      have ix:c.rows.length - 1 - (c.rows.length - 1 - k)=k:=by omega
      have il:(c.rows.length - 1 - k < c.rows.length)=True:=eq_true (by omega)
      refine ⟨[a,b,⟨c.nm,c.rows++[r]⟩],p+1+1+1+1+1,?_,by omega,by omega,hs.set 2 _ _ (by simp;omega) (fun r' h=>by
       rcases List.mem_append.1 h with h1 | h1
       ·exact hrr1 r' h1
       ·rw [List.mem_singleton] at h1;rw [h1];omega)⟩
      simp only [mxR,Zn] at ms ml mg lo mb ra
      rw [ZU]
      simp -implicitDefEqProofs only [go_sem,simprocAttr,Tryz.f7,xc,x0,x1,x2,x3,x4,xr,b0,sp,Zh,Zn,true_or,Zl,ZB,Zk,Zm,Int.toNat_natCast,List.length_map,xv,gr,br,q0,q1,rs1,ra,mb,ix,il,ms,ml,mg,lo,List.map_cons,List.map_nil,List.length_append,List.length_cons,List.length_nil]
     ·have q1:(n5==1)=false:=by simpa using e1
      by_cases e2:n5=2
      ·have q2:(n5==2)=true:=by simpa using e2
       have va:=Ja r Y3
       have rm2:((r.length+1)*33≤Zg)=True:=eq_true (by unfold Zg;omega)
       have mst:=Zdp c.rows k 5 r.length (r.length+1)
       have lf2:=fun h (hv:h[5]? = some (.rows 3 ((r++[Y3]).map vC) true))=>Yp h 5 (r++[Y3]) hv (by omega) c.rows k
       have lo2:=ZM c.rows k 5 (r.length+1) hkl
       have ml2:=Xq c.rows k 5 (r.length+1)
       refine ⟨[a,b,⟨c.nm,c.rows.set k (r++[Y3])⟩],p+1+1+1+1+1,?_,by omega,by omega,hs.set 2 _ _ (by rw [List.length_set];omega) (Yr hrr1 _ (by simp;omega))⟩
       simp only [mxR,vC,Y3,List.length_append,List.length_cons,List.length_nil,Nat.zero_add] at ms ml mg lo lf2 lo2 ml2 mst va
       rw [ZU]
       simp -implicitDefEqProofs only [go_sem,simprocAttr,Tryz.f7,xc,x0,x1,x2,x3,x4,xr,b0,sp,Zh,Zn,true_or,Zl,ZB,Zk,Zm,Int.toNat_natCast,List.length_map,xv,gr,br,q0,q1,q2,rm2,va,mst,lf2,ms,ml,mg,lo,lo2,ml2,Y3,List.map_cons,List.map_nil,List.length_append,List.length_cons,List.length_nil]
      ·have q2:(n5==2)=false:=by simpa using e2
       by_cases hr1:r.length=0
       ·have d1:(0 < (r.length:Int))=False:=eq_false (by omega)
        refine ⟨[a,b,⟨c.nm,c.rows.set k r⟩],p+1+1+1+1+1,?_,by omega,by omega,hs.set 2 _ _ (by rw [List.length_set];omega) (Yr hrr1 _ (by omega))⟩
        simp only [mxR] at ms ml mg lo lf
        rw [ZU]
        simp -implicitDefEqProofs only [go_sem,simprocAttr,Tryz.f7,xc,x0,x1,x2,x3,x4,xr,b0,sp,Zh,Zn,true_or,Zl,ZB,Zk,Zm,Int.toNat_natCast,List.length_map,xv,gr,br,q0,q1,q2,d1,lf,ms,ml,mg,lo,List.map_cons,List.map_nil]
       have d1:(0 < (r.length:Int))=True:=eq_true (by omega)
       have x6:=ZN h5 (by omega) (r.length:Int)
       have n6:=Zu L (p+1+1+1+1+1) (r.length:Int) (by omega) (by omega)
       obtain ⟨i,hi⟩:∃ i:Nat,Zw L (p+1+1+1+1+1) (r.length:Int)=(i:Int):=⟨(Zw L (p+1+1+1+1+1) (r.length:Int)).toNat,by omega⟩
       rw [hi] at x6 n6
       obtain ⟨y,p7,x7,b1,b2,_⟩:=ZfK (h5.step (p+1+1+1+1+1+1) (B - 6) (by omega) (by omega)) (by omega)
       obtain ⟨z,hz⟩:=Ze (l:=r) (i:=i) (by omega)
       have bz:(r.map vC)[i]? = some (vC z):=by simp [hz]
       have gz:=Z2 bz
       have vs:=Zdt r i y
       have lf2:=fun h (hv:h[5]? = some (.rows 3 ((r.set i y).map vC) true))=>Yp h 5 (r.set i y) hv (by omega) c.rows k
       rw [List.length_set] at lf2
       refine ⟨[a,b,⟨c.nm,c.rows.set k (r.set i y)⟩],p7,?_,by omega,by omega,hs.set 2 _ _ (by rw [List.length_set];omega) (Yr hrr1 _ (by rw [List.length_set];omega))⟩
       simp only [mxR,enc] at ms ml mg lo lf2 x7
       rw [ZU]
       simp -implicitDefEqProofs only [go_sem,simprocAttr,Tryz.f7,xc,x0,x1,x2,x3,x4,xr,b0,sp,Zh,Zn,true_or,Zl,ZB,Zk,Zm,Int.toNat_natCast,List.length_map,xv,gr,br,q0,q1,q2,d1,x6,x7,bz,gz,vs,lf2,ms,ml,mg,lo,List.map_cons,List.map_nil,List.length_set]
theorem ZlF (ds:List Dat) (n:Nat) (h1:1≤ds.length) (hn:n≤100) (hs:Sm ds n) {p B:Int} (hG:Gd L p B) (hB:100≤B) :
  ∃ (ds':List Dat) (p':Int),R K (.call 7 [.ptr 0 0,YF ds] (St L p))=some (YF ds',St L p')∧p≤p'∧p'≤p+100∧Sm ds' (n+1):=by
 have h3:=hs.1
 rcases ds with _ | ⟨a,_ | ⟨b,_ | ⟨c,_ | ⟨d',ds⟩⟩⟩⟩
 ·simp at h1
 ·have b0:=Zu L p 1 (by omega) (by omega)
  exact ZnR a n hn hs hG hB (by omega)
 ·have b0:=Zu L p 2 (by omega) (by omega)
  rcases (show Zw L p 2=0∨Zw L p 2=1 by omega) with hw | hw
  ·exact Znt a b n hn hs hG hB hw
  ·exact ZnL a b n hn hs hG hB hw
 ·have b0:=Zu L p 3 (by omega) (by omega)
  rcases (show Zw L p 3=0∨Zw L p 3=1∨Zw L p 3=2 by omega) with hw | hw | hw
  ·exact ZnQ a b c n hn hs hG hB hw
  ·exact ZnC a b c n hn hs hG hB hw
  ·exact Zn3 a b c n hn hs hG hB hw
 ·simp at h3
end
theorem ZkI {x:List Tbl} {i:Nat} {t:Tbl} (ht:x[i]? = some t) (h:YW x i=0):∀ y∈t.idx,Zr t y.cols:=by
 unfold YW at h
 rw [ht] at h
 simp only at h
 obtain ⟨h1,h2⟩:=ZaU h
 split at h2
 ·simp at h2
 have h3:=Xp 4 0 h2
 have k1:=h3 3 (by omega) (by omega)
 simp only [Q0] at k1
 intro f hf
 obtain ⟨j,hj,rfl⟩:=List.mem_iff_getElem.1 hf
 have:=Xp _ 0 k1 j (by omega) (by omega)
 unfold JK at this
 rw [List.getElem?_eq_getElem hj] at this
 have h4:=(ZaU this).2
 split at h4
 ·simp at h4
 ·split at h4
  ·simp at h4
  ·exact Zft h4
theorem Zbo {x:List Tbl} (h0:WL x=0):KeyOk x:=by
 have hr:=Zdi h0
 refine ⟨fun t ht=>(hr.ok t ht).key,fun t ht=>?_⟩
 obtain ⟨i,hi,he⟩:=List.mem_iff_getElem.1 ht
 unfold WL at h0
 split at h0
 ·simp at h0
 ·obtain ⟨h1,_⟩:=ZaU h0
  exact ZkI (List.getElem?_eq_some_iff.2 ⟨hi,he⟩) (Xp _ 0 h1 i (by omega) (by omega))
theorem Zrs {x:List Tbl} {ds:List Dat} (h:Xl x ds=0):DatOk x ds:=by
 unfold Xl at h
 split at h
 ·rename_i hn
  refine ⟨hn,fun i t d ht hd=>?_⟩
  have hi:=(List.getElem?_eq_some_iff.1 ht).1
  have:=Xp _ 0 h i (by omega) (by omega)
  unfold Zbz at this
  rw [ht,hd] at this
  simp only [Zes] at this
  split at this
  ·simp at this
  ·split at this
   ·rename_i hz
    exact ZdL hz
   ·rename_i hz
    exact absurd this hz
 ·simp at h
def Zc6 (x:List Tbl) (ds:List Dat):Int:=if WL x=0 then (if Xl x ds=0 then Wm x ds else Xl x ds) else WL x
theorem ZhT {x:List Tbl} {ds:List Dat} (hx:FitX x) (hd:FitD ds) (h0:WL x=0) (h1:Xl x ds=0):Led x ds:=⟨hx,Zdi h0,(Zbo h0).idx,Zrs h1,hd⟩
theorem ZdZ (x:List Tbl) (ds:List Dat) (hx:FitX x) (hd:FitD ds) (x1:1≤x.length) (x3:x.length≤3):R K (.call 12 [WI x,YF ds] [])=some (I (Zc6 x ds),[]):=by
 have y0:=ZbD x hx
 unfold Zc6
 by_cases h0:WL x=0
 ·rw [h0] at y0
  have y1:=Zj6 x ds hx hd (Zbo h0)
  by_cases h1:Xl x ds=0
  ·rw [h1] at y1
   have y2:=Zea x ds (ZhT hx hd h0 h1) x1 x3
   rw [if_pos h0,if_pos h1]
   rw [Zin]
   simp -implicitDefEqProofs only [go_sem,simprocAttr,Tryz.f12,y0,y1,y2,bne,beq_self_eq_true]
  ·have b1:(Xl x ds==0)=false:=by simpa using h1
   rw [if_pos h0,if_neg h1]
   rw [Zin]
   simp -implicitDefEqProofs only [go_sem,simprocAttr,Tryz.f12,y0,y1,b1,bne,beq_self_eq_true]
 ·have b0:(WL x==0)=false:=by simpa using h0
  rw [if_neg h0]
  rw [Zin]
  simp -implicitDefEqProofs only [go_sem,simprocAttr,Tryz.f12,y0,b0,bne]
def Zhw (P:Nat→Zd→Prop) (f:AV) (e:Nat→Int) (n:Nat):Prop:=∀ i,i < n→(∀ j,j < i→e j=0)→∀ h,P i h→∃ h',P (i+1) h'∧Yv nlA (R K) h [I (i:Int)] f=some (I (e i),h')
theorem ZiZ (P:Nat→Zd→Prop) (m:Nat) (hm:∀ i h,P i h→h.length=m∧Z6 m (ZP h)=true) (f:AV) (e:Nat→Int) (n:Nat) (hn:n≤1000000) (hc:Zhw P f e n):∀ (q j:Nat) (h:Zd),n=j+q→(∀ i,i < j→e i=0)→P j h →
  ∃ i h',P i h'∧∀ (ks:List It) (ii:Int) (Bo:Code),Zf Tryz.f43 0 Bo→ii=(j:Int) →
  RL K (.run 43 m (.code Bo::.lp Bo (some ([1,7,8],[])) m::.blk 0 m::ks) [(1,f),(7,I (n:Int)),(8,I ii)] h) =
  if evE e j q=0 then R K (.run 43 m ks [] h') else some (I (evE e j q),h')
 | 0,j,h,hq,hz,hp=>by
  have d:¬(j:Int) < (n:Int):=by omega
  obtain ⟨rfl,hu⟩:=hm j h hp
  refine ⟨j,h,hp,fun ks ii Bo hB hi=>?_⟩
  subst hi
  unfold Zf at hB
  simp -implicitDefEqProofs only [go_sem,simprocAttr,Tryz.f43,Zb] at hB
  subst hB
  rw [Zc]
  simp -implicitDefEqProofs only [go_sem,simprocAttr,d,evE]
 | q+1,j,h,hq,hz,hp=>by
  have d:(j:Int) < (n:Int):=by omega
  have h7:ZC .i64 ((j:Int)+1)=((j+1:Nat):Int):=by rw [ZV (by omega) (by omega)];omega
  obtain ⟨rfl,hu⟩:=hm j h hp
  obtain ⟨h1,p1,hx⟩:=hc j (by omega) hz h hp
  obtain ⟨l1,u1⟩:=hm (j+1) h1 p1
  by_cases hk:e j=0
  ·have e1:evE e j (q+1)=evE e (j+1) q:=by simp only [evE];rw [if_pos hk]
   obtain ⟨i,h',p2,ih⟩:=ZiZ P h.length hm f e n hn hc q (j+1) h1 (by omega) (fun i hi=>by
    by_cases hij:i=j
    ·rw [hij];exact hk
    ·exact hz i (by omega)) p1
   refine ⟨i,h',p2,fun ks ii Bo hB hi=>?_⟩
   subst hi
   have ih:=ih ks _ Bo hB rfl
   have tk:List.take h.length h1=h1:=List.take_of_length_le (by omega)
   rw [e1]
   unfold Zf at hB
   simp -implicitDefEqProofs only [go_sem,simprocAttr,Tryz.f43,Zb] at hB
   subst hB
   rw [Zc]
   simp -implicitDefEqProofs only [go_sem,simprocAttr,d,h7,hx,hk,bne,tk]
   rw [ih]
  ·have e1:evE e j (q+1)=e j:=by simp only [evE];rw [if_neg hk]
   have dk:(e j==0)=false:=by simpa using hk
   have tk:List.take h.length h1=h1:=List.take_of_length_le (by omega)
   refine ⟨j+1,h1,p1,fun ks ii Bo hB hi=>?_⟩
   subst hi
   rw [e1,if_neg hk]
   unfold Zf at hB
   simp -implicitDefEqProofs only [go_sem,simprocAttr,Tryz.f43,Zb] at hB
   subst hB
   rw [Zc]
   simp -implicitDefEqProofs only [go_sem,simprocAttr,d,h7,hx,dk,bne,u1,tk]
theorem ZjL (P:Nat→Zd→Prop) (m:Nat) (hm:∀ i h,P i h→h.length=m∧Z6 m (ZP h)=true) (f:AV) (e:Nat→Int) (n:Nat) (hn:n≤1000000) (hc:Zhw P f e n) (h:Zd) (hp:P 0 h) :
  ∃ i h',P i h'∧R K (.call 43 [I (n:Int),f] h)=some (I (evE e 0 n),h'):=by
 obtain ⟨rfl,hu⟩:=hm 0 h hp
 obtain ⟨i,h',p,l0⟩:=ZiZ P h.length hm f e n hn hc n 0 h (by omega) (by omega) hp
 have l0:=fun ks B hB=>l0 ks 0 B hB rfl
 obtain ⟨l1,u1⟩:=hm i h' p
 have tk:List.take h.length h'=h':=List.take_of_length_le (by omega)
 refine ⟨i,h',p,?_⟩
 rw [Zl3]
 simp -implicitDefEqProofs only [go_sem,simprocAttr,Tryz.f43]
 rw [l0 _ _ (by rfl)]
 split
 ·rename_i h0
  rw [h0]
  simp -implicitDefEqProofs only [go_sem,simprocAttr,u1,tk]
 ·rfl
structure BoolM (es:List (AV×AV)) (S:List (List UInt8)):Prop where
 key:∀ p∈es,∃ s b,p=(AV.str s,AV.bool b)
 mem:∀ s,(AV.str s,AV.bool true)∈es↔s∈S
 one:∀ (i j:Nat) (s:List UInt8) (v w:AV),es[i]? = some (AV.str s,v)→es[j]? = some (AV.str s,w)→i=j
theorem BoolM.nil:BoolM [] []:=⟨by simp,by simp,by simp⟩
theorem ZgJ {k:List UInt8}:∀ (es:List (AV×AV)) (i:Nat),(∀ p∈es,∃ s b,p=(AV.str s,AV.bool b)) →
  (∃ j b,Yc .str (.str k) es i=some (some (i+j,.bool b))∧es[j]? = some (.str k,.bool b))∨(Yc .str (.str k) es i=some none∧∀ v,(AV.str k,v)∉es)
 | [],i,_=>.inr ⟨rfl,by simp⟩
 | p::es,i,h=>by
  obtain ⟨s,b,rfl⟩:=h p (by simp)
  by_cases e:k=s
  ·subst e
   exact .inl ⟨0,b,by simp [Yc,Xc],rfl⟩
  ·have hb:(k==s)=false:=by simpa using e
   rcases ZgJ (k:=k) es (i+1) fun q hq=>h q (by simp [hq]) with ⟨j,b',h1,h2⟩ | ⟨h1,h2⟩
   ·refine .inl ⟨j+1,b',?_,by simpa using h2⟩
    simp only [Yc,Xc,hb,h1]
    rw [show i+1+j=i+(j+1) by omega]
   ·refine .inr ⟨by simp only [Yc,Xc,hb];exact h1,fun v hv=>?_⟩
    rcases List.mem_cons.1 hv with h3 | h3
    ·simp only [Prod.mk.injEq,AV.str.injEq] at h3;exact e h3.1
    ·exact h2 v h3
theorem Zl4 {k v:AV}:∀ (es:List (AV×AV)),∃ n,n≤es.length∧∀ i,(XG k v es)[i]? = if i < n then es[i]? else if i=n then some (k,v) else es[i - 1]?
 | []=>⟨0,Nat.le_refl _,fun i=>by cases i<;>simp [XG]⟩
 | p::es=>by
  unfold XG
  split
  ·exact ⟨0,Nat.zero_le _,fun i=>by cases i<;>simp⟩
  ·obtain ⟨n,h1,h2⟩:=Zl4 (k:=k) (v:=v) es
   refine ⟨n+1,by simpa using h1,fun i=>?_⟩
   cases i with
   | zero=>simp
   | succ i =>
    rw [List.getElem?_cons_succ,h2 i]
    by_cases a:i < n
    ·rw [if_pos a,if_pos (by omega),List.getElem?_cons_succ]
    ·by_cases b:i=n
     ·rw [if_neg a,if_pos b,if_neg (by omega),if_pos (by omega)]
     ·rw [if_neg a,if_neg b,if_neg (by omega),if_neg (by omega),Nat.add_sub_cancel]
      obtain ⟨c,rfl⟩:∃ c,i=c+1:=⟨i - 1,by omega⟩
      rw [Nat.add_sub_cancel,List.getElem?_cons_succ]
theorem BoolM.put {es:List (AV×AV)} {S:List (List UInt8)} (h:BoolM es S) (k:List UInt8) :
  ∃ r,Yc .str (.str k) es 0=some r∧((∃ i b,r=some (i,.bool b)∧b=decide (k∈S))∨(r=none∧k∉S)) ∧
   ∀ b,(b=false→k∉S)→BoolM (YK es (.str k) (.bool b) r) (if b=true then k::S else S):=by
 rcases ZgJ (k:=k) es 0 h.key with ⟨j,b0,h1,h2⟩ | ⟨h1,h2⟩
 ·refine ⟨_,h1,.inl ⟨_,b0,rfl,?_⟩,fun b hb=>?_⟩
  ·rw [eq_comm,←Bool.coe_iff_coe,decide_eq_true_eq,←h.mem k]
   constructor
   ·intro hm
    obtain ⟨i,hi⟩:=List.mem_iff_getElem?.1 hm
    have:=h.one _ _ _ _ _ hi h2
    subst this
    rw [h2] at hi
    simpa using hi
   ·rintro rfl
    exact List.mem_iff_getElem?.2 ⟨j,h2⟩
  ·have at0:∀ i:Nat,(YK es (AV.str k) (AV.bool b) (some (0+j,AV.bool b0)))[i]? = if i=j then some (AV.str k,AV.bool b) else es[i]? := fun i=>by
    simp only [YK,Nat.zero_add]
    rw [List.getElem?_modify]
    by_cases hi:j=i
    ·subst hi;rw [h2];simp
    ·rw [if_neg (fun e=>hi e.symm)];simp [hi]
   generalize YK es (AV.str k) (AV.bool b) (some (0+j,AV.bool b0))=es' at *
   refine ⟨fun p hp=>?_,fun s=>?_,fun i i' s v w hi hi'=>?_⟩
   ·obtain ⟨i,hi⟩:=List.mem_iff_getElem?.1 hp
    rw [at0 i] at hi
    by_cases e:i=j
    ·rw [if_pos e] at hi
     exact ⟨k,b,by simpa using hi.symm⟩
    ·rw [if_neg e] at hi
     exact h.key p (List.mem_iff_getElem?.2 ⟨i,hi⟩)
   ·by_cases e:s=k
    ·subst e
     have a1:(AV.str s,AV.bool true)∈es'↔b=true:=by
      rw [List.mem_iff_getElem?]
      constructor
      ·rintro ⟨i,hi⟩
       rw [at0 i] at hi
       by_cases e:i=j
       ·rw [if_pos e] at hi
        simpa using hi
       ·rw [if_neg e] at hi
        exact absurd (h.one _ _ _ _ _ hi h2) e
      ·rintro rfl
       exact ⟨j,by rw [at0 j,if_pos rfl]⟩
     rw [a1]
     cases b with
     | true=>simp
     | false=>simpa using hb rfl
    ·have a1:(AV.str s,AV.bool true)∈es'↔(AV.str s,AV.bool true)∈es:=by
      rw [List.mem_iff_getElem?,List.mem_iff_getElem?]
      constructor
      ·rintro ⟨i,hi⟩
       rw [at0 i] at hi
       by_cases e2:i=j
       ·rw [if_pos e2] at hi
        simp only [Option.some.injEq,Prod.mk.injEq,AV.str.injEq] at hi
        exact absurd hi.1.symm e
       ·rw [if_neg e2] at hi
        exact ⟨i,hi⟩
      ·rintro ⟨i,hi⟩
       refine ⟨i,?_⟩
       rw [at0 i,if_neg]
       ·exact hi
       ·rintro rfl
        rw [h2] at hi
        simp only [Option.some.injEq,Prod.mk.injEq,AV.str.injEq] at hi
        exact e hi.1.symm
     rw [a1,h.mem s]
     cases b with
     | true=>simp [e]
     | false=>simp
   ·have b1:∀ (i:Nat) (v:AV),es'[i]? = some (AV.str s,v)→∃ v',es[i]? = some (AV.str s,v'):=fun i v hi=>by
     rw [at0 i] at hi
     by_cases e:i=j
     ·rw [if_pos e] at hi
      simp only [Option.some.injEq,Prod.mk.injEq,AV.str.injEq] at hi
      rw [e,h2,←hi.1]
      exact ⟨_,rfl⟩
     ·rw [if_neg e] at hi
      exact ⟨_,hi⟩
    obtain ⟨v',c1⟩:=b1 i v hi
    obtain ⟨w',c2⟩:=b1 i' w hi'
    exact h.one _ _ _ _ _ c1 c2
 ·have hk:k∉S:=fun hm=>h2 _ ((h.mem k).2 hm)
  refine ⟨_,h1,.inr ⟨rfl,hk⟩,fun b hb=>?_⟩
  show BoolM (XG (AV.str k) (AV.bool b) es) _
  refine ⟨fun p hp=>?_,fun s=>?_,fun i i' s v w hi hi'=>?_⟩
  ·rcases (ZaE es p).1 hp with rfl | h3
   ·exact ⟨k,b,rfl⟩
   ·exact h.key p h3
  ·rw [ZaE,h.mem s]
   simp only [Prod.mk.injEq,AV.str.injEq,AV.bool.injEq]
   cases b with
   | true=>simp
   | false=>simp
  ·obtain ⟨n,c1,c2⟩:=Zl4 (k:=AV.str k) (v:=AV.bool b) es
   rw [c2] at hi hi'
   have e0:∀ (i:Nat) (v:AV),(if i < n then es[i]? else if i=n then some (AV.str k,AV.bool b) else es[i - 1]?)=some (AV.str s,v)→(s=k∧i=n)∨(s≠k∧i < n∧es[i]? = some (AV.str s,v))∨(s≠k∧n < i∧es[i - 1]? = some (AV.str s,v)):=fun i v hi=>by
    by_cases a:i < n
    ·rw [if_pos a] at hi
     exact .inr (.inl ⟨fun e=>h2 v (by rw [←e];exact List.mem_iff_getElem?.2 ⟨i,hi⟩),a,hi⟩)
    ·rw [if_neg a] at hi
     by_cases a2:i=n
     ·rw [if_pos a2] at hi
      simp only [Option.some.injEq,Prod.mk.injEq,AV.str.injEq] at hi
      exact .inl ⟨hi.1.symm,a2⟩
     ·rw [if_neg a2] at hi
      exact .inr (.inr ⟨fun e=>h2 v (by rw [←e];exact List.mem_iff_getElem?.2 ⟨i - 1,hi⟩),by omega,hi⟩)
   rcases e0 i v hi with ⟨a1,a2⟩ | ⟨a1,a2,a3⟩ | ⟨a1,a2,a3⟩<;>rcases e0 i' w hi' with ⟨b1,b2⟩ | ⟨b1,b2,b3⟩ | ⟨b1,b2,b3⟩
   ·omega
   ·exact absurd a1 b1
   ·exact absurd a1 b1
   ·exact absurd b1 a1
   ·have:=h.one _ _ _ _ _ a3 b3;omega
   ·have:=h.one _ _ _ _ _ a3 b3;omega
   ·exact absurd b1 a1
   ·have:=h.one _ _ _ _ _ a3 b3;omega
   ·have:=h.one _ _ _ _ _ a3 b3;omega
def atE {α:Type} (g:α→Int) (l:List α) (i:Nat):Int:=match l[i]? with
 | some a=>g a
 | none=>0
theorem Zi4 {α:Type} (g:α→Int) (F:List α→Int) (h0:F []=0) (h1:∀ a l,F (a::l)=if g a=0 then F l else g a) (l:List α):∀ q j,l.length=j+q→evE (atE g l) j q=F (l.drop j)
 | 0,j,h=>by
  rw [List.drop_of_length_le (by omega),h0]
  rfl
 | q+1,j,h=>by
  obtain ⟨a,ha⟩:=Ze (l:=l) (i:=j) (by omega)
  have e:atE g l j=g a:=by simp only [atE,ha]
  rw [show l.drop j=a::l.drop (j+1) from ZE ha,h1]
  simp only [evE,e]
  rw [Zi4 g F h0 h1 l q (j+1) (by omega)]
theorem ZhX {α:Type} (g:α→Int) (F:List α→Int) (h0:F []=0) (h1:∀ a l,F (a::l)=if g a=0 then F l else g a) (l:List α):evE (atE g l) 0 l.length=F l:=by
 rw [Zi4 g F h0 h1 l l.length 0 (by omega),List.drop_zero]
def ZbA (t:Tbl) (rs:List (List Val)):Nat→List UInt8
 | 0=>[]
 | i+1=>match rs[i]? with
  | some r=>ZD t t.key r
  | none=>[]
def Zb5 (t:Tbl) (rs:List (List Val)) (i:Nat):Int:=match rs[i]? with
 | some r=>if 0 < i∧Op.bytesLess (ZD t t.key r) (ZbA t rs i)=true then 7 else if 0 < i∧ZD t t.key r=ZbA t rs i then 10 else 0
 | none=>0
theorem ZgK (t:Tbl) (rs:List (List Val)):∀ q j,rs.length=j+1+q→evE (Zb5 t rs) (j+1) q=ZaV t (rs.drop j)
 | 0,j,h=>by
  obtain ⟨a,ha⟩:=Ze (l:=rs) (i:=j) (by omega)
  rw [show rs.drop j=a::rs.drop (j+1) from ZE ha,List.drop_of_length_le (by omega)]
  rfl
 | q+1,j,h=>by
  obtain ⟨a,ha⟩:=Ze (l:=rs) (i:=j) (by omega)
  obtain ⟨b,hb⟩:=Ze (l:=rs) (i:=j+1) (by omega)
  have ih:=ZgK t rs q (j+1) (by omega)
  have e:Zb5 t rs (j+1)=if Op.bytesLess (ZD t t.key b) (ZD t t.key a)=true then 7 else if ZD t t.key b=ZD t t.key a then 10 else 0:=by
   simp only [Zb5,hb,ZbA,ha,show 0 < j+1 by omega,true_and]
  rw [show rs.drop j=a::rs.drop (j+1) from ZE ha]
  rw [show rs.drop (j+1)=b::rs.drop (j+1+1) from ZE hb] at ih ⊢
  simp only [evE,e,ZaV,ih]
  split
  ·simp
  ·split
   ·simp
   ·simp
theorem ZqE (t:Tbl) (rs:List (List Val)):evE (Zb5 t rs) 0 rs.length=ZaV t rs:=by
 cases rs with
 | nil=>rfl
 | cons a l =>
  have h:=ZgK t (a::l) l.length 0 (by simp;omega)
  have e0:Zb5 t (a::l) 0=0:=by simp [Zb5]
  rw [List.drop_zero] at h
  rw [show (a::l).length=l.length+1 from rfl]
  simp only [evE,e0,if_true]
  exact h
def Zcc (key:List Val→Option (List UInt8)) (rs:List (List Val)) (i:Nat):Int:=match rs[i]? with
 | some r=>(match key r with
  | none=>0
  | some k=>if k∈(rs.take i).filterMap key then 10 else 0)
 | none=>0
theorem ZjY (key:List Val→Option (List UInt8)) {rs:List (List Val)} {i:Nat} {r:List Val} (h:rs[i]? = some r):(rs.take (i+1)).filterMap key=(rs.take i).filterMap key++(match key r with | none=>[] | some k=>[k]):=by
 rw [List.take_add_one,h,Option.toList_some,List.filterMap_append]
 cases hk:key r<;>simp [hk]
theorem Zdm (key:List Val→Option (List UInt8)) (rs:List (List Val)):∀ q j (S:List (List UInt8)),rs.length=j+q→(∀ s,s∈S↔s∈(rs.take j).filterMap key)→evE (Zcc key rs) j q=JB key S (rs.drop j)
 | 0,j,S,h,_=>by
  rw [List.drop_of_length_le (by omega)]
  rfl
 | q+1,j,S,h,hS=>by
  obtain ⟨r,hr⟩:=Ze (l:=rs) (i:=j) (by omega)
  have et:=ZjY key hr
  rw [show rs.drop j=r::rs.drop (j+1) from ZE hr]
  cases hk:key r with
  | none =>
   rw [hk] at et
   simp only [List.append_nil] at et
   have ih:=Zdm key rs q (j+1) S (by omega) (by rw [et];exact hS)
   have e:Zcc key rs j=0:=by simp only [Zcc,hr,hk]
   simp only [evE,e,if_true,JB,hk]
   exact ih
  | some k =>
   rw [hk] at et
   simp only at et
   have e:Zcc key rs j=if k∈S then 10 else 0:=by simp only [Zcc,hr,hk,hS k]
   by_cases hm:k∈S
   ·simp only [evE,e,JB,hk,if_pos hm]
    simp
   ·have ih:=Zdm key rs q (j+1) (k::S) (by omega) (fun s=>by
     rw [et,List.mem_cons,List.mem_append,List.mem_singleton,hS s]
     exact Or.comm)
    simp only [evE,e,JB,hk,if_neg hm,if_true]
    exact ih
theorem ZqW (key:List Val→Option (List UInt8)) (rs:List (List Val)):evE (Zcc key rs) 0 rs.length=JB key [] rs:=by
 rw [Zdm key rs rs.length 0 [] (by omega) (by simp),List.drop_zero]
def ZnH (t:Tbl) (rs:List (List Val)):Nat→Int:=atE (fun y:Idx=>if y.uq=true then JB (Z1 true t y.cols) [] rs else 0) t.idx
theorem ZqR (t:Tbl) (rs:List (List Val)):evE (ZnH t rs) 0 t.idx.length=Zep t rs t.idx :=
 ZhX _ (Zep t rs) rfl (fun _ _=>rfl) t.idx
def Zjq (key:List Val→Option (List UInt8)) (S:List (List UInt8)) (r:List Val):Int:=match key r with
 | none=>0
 | some k=>if k∈S then 0 else 11
theorem ZqF (key:List Val→Option (List UInt8)) (S:List (List UInt8)) (rs:List (List Val)):evE (atE (Zjq key S) rs) 0 rs.length=XA key S rs :=
 ZhX _ (XA key S) rfl (fun r l=>by
  rw [Zbq]
  unfold Zjq
  cases key r with
  | none=>rfl
  | some k =>
   by_cases h:k∈S
   ·simp [h]
   ·simp [h]) rs
def Zc2 (x:List Tbl) (ds:List Dat) (t:Tbl) (rs:List (List Val)) (f:Fgn):Int:=XA (Z1 true t f.cols) (ZF x ds f.tb) rs
theorem ZfU (x:List Tbl) (ds:List Dat) (t:Tbl) (rs:List (List Val)):evE (atE (Zc2 x ds t rs) t.fgn) 0 t.fgn.length=YI x ds t rs t.fgn :=
 ZhX _ (YI x ds t rs) rfl (fun _ _=>rfl) t.fgn
theorem BoolM.same {es:List (AV×AV)} {S S':List (List UInt8)} (h:BoolM es S) (e:∀ s,s∈S↔s∈S'):BoolM es S':=⟨h.key,fun s=>(h.mem s).trans (e s),h.one⟩
abbrev rfH (t:Tbl) (r:List Val):Zd:=[.cells (Za t),.cells [vsA r]]
theorem ZAN (t:Tbl) (r:List Val) (hr:r.length=t.cols.length) (i:Nat) (hi:i < r.length):R K (.call 186 [I (i:Int),.ptr 0 0,.ptr 1 0] (rfH t r))=some (I (Zas true t r i),rfH t r):=by
 obtain ⟨v,hv⟩:=Ze (l:=r) (i:=i) (by omega)
 obtain ⟨c,hc⟩:=Ze (l:=t.cols) (i:=i) (by omega)
 have gv:=ZbH hv
 have gc:=YR hc
 have x0:=Znc c.kd v.k v.n v.s
 have ec:Zas true t r i=if QB c.kd v=0 then (if v.k=0∧c.nl=false then 9 else 0) else QB c.kd v:=by simp only [Zas,hc,hv,true_and]
 have eta:(⟨v.k,v.n,v.s⟩:Val)=v:=rfl
 rw [eta] at x0
 rw [ec]
 simp only [rfH,Za,ZO] at gc ⊢
 by_cases h0:QB c.kd v=0
 ·rw [h0] at x0
  simp only [h0,if_true]
  by_cases k0:v.k=0
  ·have b0:(v.k==0)=true:=by simpa using k0
   cases hn:c.nl with
   | false =>
    simp only [k0,true_and,if_true]
    rw [Zcr]
    simp -implicitDefEqProofs only [go_sem,simprocAttr,Tryz.f186,gv,gc,x0,b0,hn,bne,beq_self_eq_true,Za,ZO]
   | true =>
    simp only [Bool.true_eq_false,and_false,if_false]
    rw [Zcr]
    simp -implicitDefEqProofs only [go_sem,simprocAttr,Tryz.f186,gv,gc,x0,b0,hn,bne,beq_self_eq_true,Za,ZO]
  ·have b0:(v.k==0)=false:=by simpa using k0
   simp only [k0,false_and,if_false]
   rw [Zcr]
   simp -implicitDefEqProofs only [go_sem,simprocAttr,Tryz.f186,gv,gc,x0,b0,bne,beq_self_eq_true,Za,ZO]
 ·have b0:(QB c.kd v==0)=false:=by simpa using h0
  simp only [h0,if_false]
  rw [Zcr]
  simp -implicitDefEqProofs only [go_sem,simprocAttr,Tryz.f186,gv,gc,x0,b0,bne,Za,ZO]
theorem Zzy (t:Tbl) (r:List Val) (hr:r.length=t.cols.length):Wb (rfH t r) (.fn 186 [.ptr 0 0,.ptr 1 0]) (Zas true t r) r.length:=fun i hi=>by
 have hk:=ZAN t r hr i hi
 simp only [rfH,Za] at hk ⊢
 simp -implicitDefEqProofs only [go_sem,simprocAttr,hk]
theorem Zox (t:Tbl) (ht:t.cols.length≤1000000) (r:List Val) (hl:r.length≤1000000):R K (.call 92 [ZX t,vsA r] [])=some (I (Q4 true t r),[]):=by
 unfold Q4
 by_cases hr:r.length=t.cols.length
 ·have b0:(((r.length:Nat):Int)==((t.cols.length:Nat):Int))=true:=by simp [hr]
  have hi:=YS _ (rfH t r) (Zas true t r) r.length hl rfl (Zzy t r hr)
  rw [if_pos hr,←hr]
  simp only [rfH,Za] at hi
  rw [ZmP]
  simp -implicitDefEqProofs only [go_sem,simprocAttr,Tryz.f92,hi,b0,bne,List.length_map,Za]
 ·have b0:(((r.length:Nat):Int)==((t.cols.length:Nat):Int))=false:=by
   rw [←Bool.not_eq_true,beq_iff_eq];omega
  rw [if_neg hr]
  rw [ZmP]
  simp -implicitDefEqProofs only [go_sem,simprocAttr,Tryz.f92,b0,bne,List.length_map,Za]
abbrev trH (t:Tbl) (rs:List (List Val)):Zd:=[.cells (Za t),.cells [.rows (rs.map Zn)]]
theorem ZzD (t:Tbl) (ht:t.cols.length≤1000000) (rs:List (List Val)) (hl:∀ r∈rs,r.length≤1000000) (i:Nat) (hi:i < rs.length):R K (.call 91 [I (i:Int),.ptr 0 0,.ptr 1 0] (trH t rs))=some (I (XL t rs i),trH t rs):=by
 obtain ⟨r,hr⟩:=Ze (l:=rs) (i:=i) (by omega)
 have gr:=Yj hr
 have x0:=Zox t ht r (hl r (List.mem_of_getElem? hr))
 have e:XL t rs i=Q4 true t r:=by simp only [XL,hr]
 rw [e]
 simp only [Zn] at gr
 simp only [trH,ZX,Za] at x0 ⊢
 rw [Zst]
 simp -implicitDefEqProofs only [go_sem,simprocAttr,Tryz.f91,gr,x0,Zn]
theorem Zy1 (t:Tbl) (ht:t.cols.length≤1000000) (rs:List (List Val)) (hl:∀ r∈rs,r.length≤1000000):Wb (trH t rs) (.fn 91 [.ptr 0 0,.ptr 1 0]) (XL t rs) rs.length:=fun i hi=>by
 have hk:=ZzD t ht rs hl i hi
 simp only [trH,Za] at hk ⊢
 simp -implicitDefEqProofs only [go_sem,simprocAttr,hk]
abbrev t2H (t:Tbl) (rs:List (List Val)) (s:List UInt8):Zd:=[.cells (Za t),.cells [.rows (rs.map Zn)],.cells [.str s]]
theorem ZAU (t:Tbl) (ht:t.cols.length≤1000000) (hk:t.key.length≤1000000) (hN:Zr t t.key) (rs:List (List Val)) (hrs:ZK t rs) (hl:rs.length≤1000000) (i:Nat) (hi:i < rs.length):R K (.call 93 [I (i:Int),.ptr 0 0,.ptr 1 0,.ptr 2 0] (t2H t rs (ZbA t rs i)))=some (I (Zb5 t rs i),t2H t rs (if Zb5 t rs i=0 then ZbA t rs (i+1) else ZbA t rs i)):=by
 obtain ⟨r,hr⟩:=Ze (l:=rs) (i:=i) (by omega)
 have gr:=Yj hr
 have x0:=WD t ht r (hrs r (List.mem_of_getElem? hr)) t.key hN hk
 have e1:ZbA t rs (i+1)=ZD t t.key r:=by simp only [ZbA,hr]
 have e:Zb5 t rs i=if 0 < i∧Op.bytesLess (ZD t t.key r) (ZbA t rs i)=true then 7 else if 0 < i∧ZD t t.key r=ZbA t rs i then 10 else 0:=by simp only [Zb5,hr]
 rw [e,e1]
 generalize ZD t t.key r=s at *
 generalize ZbA t rs i=p at *
 simp only [Zn] at gr
 simp only [t2H,ZX,Za] at x0 ⊢
 by_cases h0:0 < i
 ·have d0:(0:Int) < (i:Int):=by omega
  by_cases c1:Op.bytesLess s p=true
  ·simp only [h0,c1,true_and,if_true,show ¬((7:Int)=0) by decide,if_false]
   rw [Zeu]
   simp -implicitDefEqProofs only [go_sem,simprocAttr,Tryz.f93,gr,x0,d0,c1,Zn]
  ·have c1':Op.bytesLess s p=false:=by simpa using c1
   by_cases c2:s=p
   ·have b2:(s==p)=true:=by simpa using c2
    simp only [h0,c1,c2,true_and,if_true,if_false,show ¬((10:Int)=0) by decide]
    subst c2
    rw [Zeu]
    simp -implicitDefEqProofs only [go_sem,simprocAttr,Tryz.f93,gr,x0,d0,c1',b2,Zc9,beq_self_eq_true,Zn]
   ·have b2:(s==p)=false:=by simpa using c2
    simp only [h0,c1,c2,true_and,if_true,if_false,and_false]
    rw [Zeu]
    simp -implicitDefEqProofs only [go_sem,simprocAttr,Tryz.f93,gr,x0,d0,c1',b2,Zn]
 ·have d0:¬(0:Int) < (i:Int):=by omega
  simp only [h0,false_and,if_false,if_true]
  rw [Zeu]
  simp -implicitDefEqProofs only [go_sem,simprocAttr,Tryz.f93,gr,x0,d0,Zn]
def P2 (t:Tbl) (rs:List (List Val)) (i:Nat) (h:Zd):Prop:=∃ s,h=t2H t rs s∧((∀ j,j < i→Zb5 t rs j=0)→s=ZbA t rs i)
theorem ZAh (t:Tbl) (ht:t.cols.length≤1000000) (hk:t.key.length≤1000000) (hN:Zr t t.key) (rs:List (List Val)) (hrs:ZK t rs) (hl:rs.length≤1000000):Zhw (P2 t rs) (.fn 93 [.ptr 0 0,.ptr 1 0,.ptr 2 0]) (Zb5 t rs) rs.length:=fun i hi hz h hp=>by
 obtain ⟨s,rfl,hs⟩:=hp
 obtain rfl:=hs hz
 have hk:=ZAU t ht hk hN rs hrs hl i hi
 refine ⟨t2H t rs (if Zb5 t rs i=0 then ZbA t rs (i+1) else ZbA t rs i),⟨_,rfl,fun hz'=>?_⟩,?_⟩
 ·rw [if_pos (hz' i (by omega))]
 ·generalize ZbA t rs i=p at *
  generalize ZbA t rs (i+1)=p' at *
  generalize Zb5 t rs i=c at *
  simp only [t2H,Za] at hk ⊢
  simp -implicitDefEqProofs only [go_sem,simprocAttr,hk]
theorem ZAc (t:Tbl) (ht:t.cols.length≤1000000) (hk:t.key.length≤1000000) (hN:Zr t t.key) (rs:List (List Val)) (hrs:ZK t rs) (hl:rs.length≤1000000):∃ s,R K (.call 43 [I (rs.length:Int),.fn 93 [.ptr 0 0,.ptr 1 0,.ptr 2 0]] (t2H t rs []))=some (I (ZaV t rs),t2H t rs s):=by
 obtain ⟨i,h',⟨s,rfl,_⟩,h⟩:=ZjL (P2 t rs) 3 (by rintro i h ⟨s,rfl,_⟩;exact ⟨rfl,rfl⟩) _ _ _ hl (ZAh t ht hk hN rs hrs hl) (t2H t rs []) ⟨[],rfl,fun _=>rfl⟩
 rw [ZqE] at h
 exact ⟨s,h⟩
abbrev t3H (t:Tbl) (rs:List (List Val)) (k:Nat) (es:List (AV×AV)):Zd:=[.cells (Za t),.cells [I (k:Int)],.cells [.rows (rs.map Zn)],.cells [.mp 4],.map es]
theorem ZuG (t:Tbl) (ht:t.cols.length≤1000000) (k:Nat) (y:Idx) (hy:t.idx[k]? = some y) (hN:Zr t y.cols) (hc:y.cols.length≤1000000) (rs:List (List Val)) (hrs:ZK t rs) (i:Nat) (hi:i < rs.length) (es:List (AV×AV)) (hM:BoolM es ((rs.take i).filterMap (Z1 true t y.cols))) :
  ∃ es',(Zcc (Z1 true t y.cols) rs i=0→BoolM es' ((rs.take (i+1)).filterMap (Z1 true t y.cols)))∧R K (.call 95 [I (i:Int),.ptr 0 0,.ptr 1 0,.ptr 2 0,.ptr 3 0] (t3H t rs k es))=some (I (Zcc (Z1 true t y.cols) rs i),t3H t rs k es'):=by
 obtain ⟨r,hr⟩:=Ze (l:=rs) (i:=i) (by omega)
 have gr:=Yj hr
 have gy:=Ji hy
 have x0:=WD t ht r (hrs r (List.mem_of_getElem? hr)) y.cols hN hc
 have et:=ZjY (Z1 true t y.cols) hr
 obtain ⟨r0,hf,hcase,hput⟩:=hM.put (ZD t y.cols r)
 simp only [Zn] at gr
 simp only [ZT] at gy
 simp only [ZX,Za] at x0
 cases hn:Ww (ZQ t y.cols r) with
 | true =>
  have ek:Z1 true t y.cols r=none:=by simp [Z1,hn]
  have e:Zcc (Z1 true t y.cols) rs i=0:=by simp only [Zcc,hr,ek]
  rw [ek] at et
  simp only [List.append_nil] at et
  rw [e,et]
  rw [hn] at x0
  generalize ZD t y.cols r=s at *
  generalize (rs.take i).filterMap (Z1 true t y.cols)=S at *
  rcases hcase with ⟨i0,b,rfl,hb⟩ | ⟨rfl,hm⟩
  ·cases b with
   | true =>
    refine ⟨_,fun _=>(hput true (by simp)).same fun x=>?_,?_⟩
    ·have:s∈S:=by simpa using hb.symm
     simp only [if_true,List.mem_cons]
     constructor
     ·rintro (rfl | h)
      ·exact this
      ·exact h
     ·exact .inr
    ·simp only [t3H,Za,YK]
     rw [Zbl]
     simp -implicitDefEqProofs only [go_sem,simprocAttr,Tryz.f95,gr,gy,x0,hf,Zn,ZT,Za]
   | false =>
    have:¬s∈S:=by simpa using hb.symm
    refine ⟨_,fun _=>hput false (fun _=>this),?_⟩
    simp only [t3H,Za,YK]
    rw [Zbl]
    simp -implicitDefEqProofs only [go_sem,simprocAttr,Tryz.f95,gr,gy,x0,hf,Zn,ZT,Za,Bool.not_true]
  ·refine ⟨_,fun _=>hput false (fun _=>hm),?_⟩
   simp only [t3H,Za,YK]
   rw [Zbl]
   simp -implicitDefEqProofs only [go_sem,simprocAttr,Tryz.f95,gr,gy,x0,hf,Zn,ZT,Za,Bool.not_true]
 | false =>
  have ek:Z1 true t y.cols r=some (ZD t y.cols r):=by simp [Z1,hn]
  have e:Zcc (Z1 true t y.cols) rs i=if ZD t y.cols r∈(rs.take i).filterMap (Z1 true t y.cols) then 10 else 0:=by simp only [Zcc,hr,ek]
  rw [ek] at et
  simp only at et
  rw [e,et]
  rw [hn] at x0
  generalize ZD t y.cols r=s at *
  generalize (rs.take i).filterMap (Z1 true t y.cols)=S at *
  have same:∀ x,x∈s::S↔x∈S++[s]:=fun x=>by
   rw [List.mem_cons,List.mem_append,List.mem_singleton]
   exact Or.comm
  rcases hcase with ⟨i0,b,rfl,hb⟩ | ⟨rfl,hm⟩
  ·cases b with
   | true =>
    have:s∈S:=by simpa using hb.symm
    rw [if_pos this]
    refine ⟨es,fun h=>by simp at h,?_⟩
    simp only [t3H,Za]
    rw [Zbl]
    simp -implicitDefEqProofs only [go_sem,simprocAttr,Tryz.f95,gr,gy,x0,hf,Zn,ZT,Za,Bool.not_false]
   | false =>
    have:¬s∈S:=by simpa using hb.symm
    rw [if_neg this]
    refine ⟨_,fun _=>(hput true (by simp)).same same,?_⟩
    simp only [t3H,Za,YK]
    rw [Zbl]
    simp -implicitDefEqProofs only [go_sem,simprocAttr,Tryz.f95,gr,gy,x0,hf,Zn,ZT,Za,Bool.not_false]
  ·rw [if_neg hm]
   refine ⟨_,fun _=>(hput true (by simp)).same same,?_⟩
   simp only [t3H,Za,YK]
   rw [Zbl]
   simp -implicitDefEqProofs only [go_sem,simprocAttr,Tryz.f95,gr,gy,x0,hf,Zn,ZT,Za,Bool.not_false]
def P3 (t:Tbl) (rs:List (List Val)) (k:Nat) (y:Idx) (i:Nat) (h:Zd):Prop:=∃ es,h=t3H t rs k es∧((∀ j,j < i→Zcc (Z1 true t y.cols) rs j=0)→BoolM es ((rs.take i).filterMap (Z1 true t y.cols)))
theorem Zvd (t:Tbl) (ht:t.cols.length≤1000000) (k:Nat) (y:Idx) (hy:t.idx[k]? = some y) (hN:Zr t y.cols) (hc:y.cols.length≤1000000) (rs:List (List Val)) (hrs:ZK t rs):Zhw (P3 t rs k y) (.fn 95 [.ptr 0 0,.ptr 1 0,.ptr 2 0,.ptr 3 0]) (Zcc (Z1 true t y.cols) rs) rs.length:=fun i hi hz h hp=>by
 obtain ⟨es,rfl,hM⟩:=hp
 obtain ⟨es',h1,hk⟩:=ZuG t ht k y hy hN hc rs hrs i hi es (hM hz)
 refine ⟨_,⟨es',rfl,fun hz'=>h1 (hz' i (by omega))⟩,?_⟩
 simp only [t3H,Za] at hk ⊢
 simp -implicitDefEqProofs only [go_sem,simprocAttr,hk]
theorem ZBq (t:Tbl) (ht:t.cols.length≤1000000) (k:Nat) (y:Idx) (hy:t.idx[k]? = some y) (hN:Zr t y.cols) (hc:y.cols.length≤1000000) (rs:List (List Val)) (hrs:ZK t rs) (hl:rs.length≤1000000):R K (.call 94 [I (k:Int),.ptr 0 0,.ptr 1 0] (trH t rs))=some (I (ZnH t rs k),trH t rs):=by
 have gy:=Ji hy
 have e:ZnH t rs k=if y.uq=true then JB (Z1 true t y.cols) [] rs else 0:=by simp only [ZnH,atE,hy]
 rw [e]
 simp only [ZT] at gy
 cases hu:y.uq with
 | true =>
  rw [hu] at gy
  obtain ⟨i,h',⟨es,rfl,_⟩,h⟩:=ZjL (P3 t rs k y) 5 (by rintro i h ⟨s,rfl,_⟩;exact ⟨rfl,rfl⟩) _ _ _ hl (Zvd t ht k y hy hN hc rs hrs) (t3H t rs k []) ⟨[],rfl,fun _=>BoolM.nil⟩
  rw [ZqW] at h
  simp only [if_true]
  simp only [t3H,trH,Za] at h ⊢
  rw [Zmn]
  simp -implicitDefEqProofs only [go_sem,simprocAttr,Tryz.f94,gy,h,ZT,Za,List.length_map]
 | false =>
  rw [hu] at gy
  simp only [Bool.false_eq_true,if_false]
  simp only [trH,Za]
  rw [Zmn]
  simp -implicitDefEqProofs only [go_sem,simprocAttr,Tryz.f94,gy,ZT,Za]
theorem ZCg (t:Tbl) (ht:t.cols.length≤1000000) (hN:∀ y∈t.idx,Zr t y.cols∧y.cols.length≤1000000) (rs:List (List Val)) (hrs:ZK t rs) (hl:rs.length≤1000000):Wb (trH t rs) (.fn 94 [.ptr 0 0,.ptr 1 0]) (ZnH t rs) t.idx.length:=fun k hk=>by
 obtain ⟨y,hy⟩:=Ze (l:=t.idx) (i:=k) (by omega)
 obtain ⟨n1,n2⟩:=hN y (List.mem_of_getElem? hy)
 have hk:=ZBq t ht k y hy n1 n2 rs hrs hl
 simp only [trH,Za] at hk ⊢
 simp -implicitDefEqProofs only [go_sem,simprocAttr,hk]
theorem Zjh (t:Tbl) (ht:FitT t) (hK:Zr t t.key) (hN:∀ y∈t.idx,Zr t y.cols) (rs:List (List Val)) (hl:rs.length≤1000000) (hr:∀ r∈rs,r.length≤1000000):R K (.call 45 [ZX t,.rows (rs.map Zn)] [])=some (I (Zes t rs),[]):=by
 have h1:=YS _ (trH t rs) (XL t rs) rs.length hl rfl (Zy1 t ht.cols rs hr)
 unfold Zes
 by_cases h5:5000 < rs.length
 ·have d5:(5000:Int) < (rs.length:Int):=by omega
  rw [if_pos h5]
  rw [ZeF]
  simp -implicitDefEqProofs only [go_sem,simprocAttr,Tryz.f45,d5,List.length_map,Za]
 ·have d5:¬(5000:Int) < (rs.length:Int):=by omega
  rw [if_neg h5]
  by_cases hz:evE (XL t rs) 0 rs.length=0
  ·rw [if_pos hz]
   rw [hz] at h1
   have hrs:=ZdL hz
   obtain ⟨s,h2⟩:=ZAc t ht.cols ht.key hK rs hrs hl
   have h3:=YS _ (trH t rs) (ZnH t rs) t.idx.length ht.idx rfl (ZCg t ht.cols (fun y hy=>⟨hN y hy,(ht.ix y hy).2⟩) rs hrs hl)
   rw [ZqR] at h3
   unfold Zf3
   simp only [trH,t2H,Za] at h1 h2 h3
   by_cases ho:ZaV t rs=0
   ·rw [ho] at h2
    rw [if_pos ho]
    generalize Zep t rs t.idx=u at *
    rw [ZeF]
    simp -implicitDefEqProofs only [go_sem,simprocAttr,Tryz.f45,d5,h1,h2,h3,bne,beq_self_eq_true,List.length_map,Za]
   ·have b0:(ZaV t rs==0)=false:=by simpa using ho
    rw [if_neg ho]
    generalize ZaV t rs=u at *
    rw [ZeF]
    simp -implicitDefEqProofs only [go_sem,simprocAttr,Tryz.f45,d5,h1,h2,b0,bne,beq_self_eq_true,List.length_map,Za]
  ·have b0:(evE (XL t rs) 0 rs.length==0)=false:=by simpa using hz
   rw [if_neg hz]
   generalize evE (XL t rs) 0 rs.length=u at *
   simp only [trH,Za] at h1
   rw [ZeF]
   simp -implicitDefEqProofs only [go_sem,simprocAttr,Tryz.f45,d5,h1,b0,bne,List.length_map,Za]
abbrev r1H (ds:List Dat) (es:List (AV×AV)) (i:Nat) (t:Tbl) (f:Fgn):Zd:=[.cells (Za t),.cells (Zt f),.cells [.rows (ds.map Zh)],.cells [I (i:Int)],.cells [.mp 5],.map es]
theorem ZFB (ds:List Dat) (es:List (AV×AV)) (S:List (List UInt8)) (hS:SetM es S) (i:Nat) (t:Tbl) (f:Fgn) (d:Dat) (hd:ds[i]? = some d) (ht:t.cols.length≤1000000) (hN:Zr t f.cols) (hc:f.cols.length≤1000000) (hrs:ZK t d.rows) (n:Nat) (hn:n < d.rows.length) :
  R K (.call 50 [I (n:Int),.ptr 0 0,.ptr 1 0,.ptr 2 0,.ptr 3 0,.ptr 4 0] (r1H ds es i t f))=some (I (atE (Zjq (Z1 true t f.cols) S) d.rows n),r1H ds es i t f):=by
 obtain ⟨r,hr⟩:=Ze (l:=d.rows) (i:=n) (by omega)
 have gr:=Yj hr
 have gd:=YE hd
 have x0:=WD t ht r (hrs r (List.mem_of_getElem? hr)) f.cols hN hc
 obtain ⟨a1,a2⟩:=J3 hS (ZD t f.cols r)
 have e:atE (Zjq (Z1 true t f.cols) S) d.rows n=Zjq (Z1 true t f.cols) S r:=by simp only [atE,hr]
 rw [e]
 simp only [Zn] at gr
 simp only [Zh] at gd
 simp only [ZX,Za] at x0
 cases hv:Ww (ZQ t f.cols r) with
 | true =>
  have ek:Z1 true t f.cols r=none:=by simp [Z1,hv]
  simp only [Zjq,ek]
  rw [hv] at x0
  simp only [r1H,Za,Zt]
  rw [ZhL]
  simp -implicitDefEqProofs only [go_sem,simprocAttr,Tryz.f50,gr,gd,x0,Bool.not_true,Zh,Za,Zt,Zn]
 | false =>
  have ek:Z1 true t f.cols r=some (ZD t f.cols r):=by simp [Z1,hv]
  simp only [Zjq,ek]
  rw [hv] at x0
  generalize ZD t f.cols r=s at *
  by_cases hm:s∈S
  ·obtain ⟨i0,hf⟩:=a1 hm
   rw [if_pos hm]
   simp only [r1H,Za,Zt]
   rw [ZhL]
   simp -implicitDefEqProofs only [go_sem,simprocAttr,Tryz.f50,gr,gd,x0,hf,Bool.not_false,Bool.not_true,Zh,Za,Zt,Zn]
  ·have hf:=a2 hm
   rw [if_neg hm]
   simp only [r1H,Za,Zt]
   rw [ZhL]
   simp -implicitDefEqProofs only [go_sem,simprocAttr,Tryz.f50,gr,gd,x0,hf,Bool.not_false,Bool.not_true,Zh,Za,Zt,Zn]
theorem ZvC (ds:List Dat) (es:List (AV×AV)) (S:List (List UInt8)) (hS:SetM es S) (i:Nat) (t:Tbl) (f:Fgn) (d:Dat) (hd:ds[i]? = some d) (ht:t.cols.length≤1000000) (hN:Zr t f.cols) (hc:f.cols.length≤1000000) (hrs:ZK t d.rows) (hl:d.rows.length≤1000000) :
  R K (.call 43 [I (d.rows.length:Int),.fn 50 [.ptr 0 0,.ptr 1 0,.ptr 2 0,.ptr 3 0,.ptr 4 0]] (r1H ds es i t f))=some (I (XA (Z1 true t f.cols) S d.rows),r1H ds es i t f):=by
 have hv:Wb (r1H ds es i t f) (.fn 50 [.ptr 0 0,.ptr 1 0,.ptr 2 0,.ptr 3 0,.ptr 4 0]) (atE (Zjq (Z1 true t f.cols) S) d.rows) d.rows.length:=fun n hn=>by
  have hk:=ZFB ds es S hS i t f d hd ht hN hc hrs n hn
  simp only [r1H,Za,Zt] at hk ⊢
  simp -implicitDefEqProofs only [go_sem,simprocAttr,hk]
 have h:=YS _ _ _ d.rows.length hl rfl hv
 rw [ZqF] at h
 exact h
abbrev kH1 (x:List Tbl) (ds:List Dat) (E0:List (AV×AV)):Zd:=[.cells [.rows (x.map Za)],.cells [.own 3 1],.cells [.rows (ds.map Zh)],.rows 1 [[.mp 4]] true,.map E0]
abbrev kI1 (x:List Tbl) (ds:List Dat) (t:Tbl) (i:Nat) (E0:List (AV×AV)):Zd:=[.cells (Za t),.cells [.own 5 1],.cells [.rows (x.map Za)],.cells [.rows (ds.map Zh)],.cells [I (i:Int)],.rows 1 [[.mp 6]] true,.map E0]
theorem ZAt (x:List Tbl) (ds:List Dat) (h:Led x ds) (hm:x.length=1) (t0:Tbl) (D0:Dat) (E0:List (AV×AV)) (ht0:x[0]? = some t0) (hd0:ds[0]? = some D0) (s0:SetM E0 (D0.rows.map (ZD t0 t0.key))) (i:Nat) (t:Tbl) (d:Dat) (hi:x[i]? = some t) (hd:ds[i]? = some d) (k:Nat) (hk:k < t.fgn.length) :
  R K (.call 48 [I (k:Int),.ptr 0 0,.ptr 1 0,.ptr 2 0,.ptr 3 0,.ptr 4 0] (kI1 x ds t i E0))=some (I (atE (Zc2 x ds t d.rows) t.fgn k),(kI1 x ds t i E0)):=by
 obtain ⟨f,hf⟩:=Ze (l:=t.fgn) (i:=k) (by omega)
 have mf:=List.mem_of_getElem? hf
 have mt:=List.mem_of_getElem? hi
 have gf:=Xz hf
 have gd:=YE hd
 have ft:=h.fit.tbl t mt
 have fd:=h.few.rows d (List.mem_of_getElem? hd)
 obtain ⟨w,u,g,hw,hu,hg⟩:=h.to mt mf
 have xt:=Zbn x f.tb h.fit.len
 rw [hw] at xt
 have hwl:=(List.getElem?_eq_some_iff.1 hu).1
 rw [hm] at hwl
 have e:atE (Zc2 x ds t d.rows) t.fgn k=XA (Z1 true t f.cols) (ZF x ds f.tb) d.rows:=by simp only [atE,hf,Zc2]
 rw [e]
 have hx:=fun es S hS=>ZvC ds es S hS i t f d hd ft.cols ((h.right.ok t mt).fg f mf) (ft.fg f mf).2 (h.ok.fit i t d hi hd) fd.1
 simp only [Zt] at gf
 simp only [Zh] at gd
 have hw0:w=0:=by omega
 ·subst hw0
  have ek:ZF x ds f.tb=D0.rows.map (ZD t0 t0.key):=by
   simp only [ZF,hw,Int.toNat_natCast,ht0,hd0]
  have hx:=hx E0 _ s0
  rw [←ek] at hx
  generalize XA (Z1 true t f.cols) (ZF x ds f.tb) d.rows=z at *
  simp only [r1H,kI1,Za,Zt,List.cons_append,List.nil_append] at hx ⊢
  rw [Zbm]
  simp -implicitDefEqProofs only [go_sem,simprocAttr,Tryz.f48,gf,gd,xt,hx,Zh,Za,Zt,List.length_map]
theorem ZAZ (x:List Tbl) (ds:List Dat) (h:Led x ds) (hm:x.length=1) (t0:Tbl) (D0:Dat) (E0:List (AV×AV)) (ht0:x[0]? = some t0) (hd0:ds[0]? = some D0) (s0:SetM E0 (D0.rows.map (ZD t0 t0.key))) (i:Nat) (t:Tbl) (d:Dat) (hi:x[i]? = some t) (hd:ds[i]? = some d) :
  R K (.call 43 [I (t.fgn.length:Int),.fn 48 [.ptr 0 0,.ptr 1 0,.ptr 2 0,.ptr 3 0,.ptr 4 0]] (kI1 x ds t i E0))=some (I (YI x ds t d.rows t.fgn),(kI1 x ds t i E0)):=by
 have hv:Wb (kI1 x ds t i E0) (.fn 48 [.ptr 0 0,.ptr 1 0,.ptr 2 0,.ptr 3 0,.ptr 4 0]) (atE (Zc2 x ds t d.rows) t.fgn) t.fgn.length:=fun k hk=>by
  have hk:=ZAt x ds h hm t0 D0 E0 ht0 hd0 s0 i t d hi hd k hk
  simp only [kI1,Za,List.cons_append,List.nil_append] at hk ⊢
  simp -implicitDefEqProofs only [go_sem,simprocAttr,hk]
 have hc:=YS _ _ _ t.fgn.length (h.fit.tbl t (List.mem_of_getElem? hi)).fgn rfl hv
 rw [ZfU] at hc
 exact hc
theorem ZuN (x:List Tbl) (ds:List Dat) (h:Led x ds) (hm:x.length=1) (t0:Tbl) (D0:Dat) (E0:List (AV×AV)) (ht0:x[0]? = some t0) (hd0:ds[0]? = some D0) (s0:SetM E0 (D0.rows.map (ZD t0 t0.key))) (i:Nat) (hi:i < x.length) :
  R K (.call 47 [I (i:Int),.ptr 0 0,.ptr 1 0,.ptr 2 0] (kH1 x ds E0))=some (I (Yl x ds i),kH1 x ds E0):=by
 have hdl:=h.ok.len
 obtain ⟨t,ht⟩:=Ze (l:=x) (i:=i) (by omega)
 obtain ⟨d,hd⟩:=Ze (l:=ds) (i:=i) (by omega)
 have gt:=ZG ht
 have hx:=ZAZ x ds h hm t0 D0 E0 ht0 hd0 s0 i t d ht hd
 have ea:Yl x ds i=YI x ds t d.rows t.fgn:=by simp only [Yl,ht,hd]
 rw [ea]
 generalize YI x ds t d.rows t.fgn=z at *
 simp only [kH1,kI1,Za,List.cons_append,List.nil_append] at gt hx ⊢
 rw [Zha]
 simp -implicitDefEqProofs only [go_sem,simprocAttr,Tryz.f47,gt,hx,Za,List.length_map]
theorem Zwz (x:List Tbl) (ds:List Dat) (h:Led x ds) (hm:x.length=1) (t0:Tbl) (D0:Dat) (E0:List (AV×AV)) (ht0:x[0]? = some t0) (hd0:ds[0]? = some D0) (s0:SetM E0 (D0.rows.map (ZD t0 t0.key))) :
  R K (.call 43 [I (x.length:Int),.fn 47 [.ptr 0 0,.ptr 1 0,.ptr 2 0]] (kH1 x ds E0))=some (I (Wm x ds),kH1 x ds E0):=by
 have hv:Wb (kH1 x ds E0) (.fn 47 [.ptr 0 0,.ptr 1 0,.ptr 2 0]) (Yl x ds) x.length:=fun i hi=>by
  have hk:=ZuN x ds h hm t0 D0 E0 ht0 hd0 s0 i hi
  simp only [kH1] at hk ⊢
  simp -implicitDefEqProofs only [go_sem,simprocAttr,hk]
 have hc:=YS _ _ _ x.length (by omega) rfl hv
 exact hc
abbrev kH2 (x:List Tbl) (ds:List Dat) (E0 E1:List (AV×AV)):Zd:=[.cells [.rows (x.map Za)],.cells [.own 3 2],.cells [.rows (ds.map Zh)],.rows 1 [[.mp 4],[.mp 5]] true,.map E0,.map E1]
abbrev kI2 (x:List Tbl) (ds:List Dat) (t:Tbl) (i:Nat) (E0 E1:List (AV×AV)):Zd:=[.cells (Za t),.cells [.own 5 2],.cells [.rows (x.map Za)],.cells [.rows (ds.map Zh)],.cells [I (i:Int)],.rows 1 [[.mp 6],[.mp 7]] true,.map E0,.map E1]
theorem ZAf (x:List Tbl) (ds:List Dat) (h:Led x ds) (hm:x.length=2) (t0 t1:Tbl) (D0 D1:Dat) (E0 E1:List (AV×AV)) (ht0:x[0]? = some t0) (hd0:ds[0]? = some D0) (s0:SetM E0 (D0.rows.map (ZD t0 t0.key))) (ht1:x[1]? = some t1) (hd1:ds[1]? = some D1) (s1:SetM E1 (D1.rows.map (ZD t1 t1.key))) (i:Nat) (t:Tbl) (d:Dat) (hi:x[i]? = some t) (hd:ds[i]? = some d) (k:Nat) (hk:k < t.fgn.length) :
  R K (.call 48 [I (k:Int),.ptr 0 0,.ptr 1 0,.ptr 2 0,.ptr 3 0,.ptr 4 0] (kI2 x ds t i E0 E1))=some (I (atE (Zc2 x ds t d.rows) t.fgn k),(kI2 x ds t i E0 E1)):=by
 obtain ⟨f,hf⟩:=Ze (l:=t.fgn) (i:=k) (by omega)
 have mf:=List.mem_of_getElem? hf
 have mt:=List.mem_of_getElem? hi
 have gf:=Xz hf
 have gd:=YE hd
 have ft:=h.fit.tbl t mt
 have fd:=h.few.rows d (List.mem_of_getElem? hd)
 obtain ⟨w,u,g,hw,hu,hg⟩:=h.to mt mf
 have xt:=Zbn x f.tb h.fit.len
 rw [hw] at xt
 have hwl:=(List.getElem?_eq_some_iff.1 hu).1
 rw [hm] at hwl
 have e:atE (Zc2 x ds t d.rows) t.fgn k=XA (Z1 true t f.cols) (ZF x ds f.tb) d.rows:=by simp only [atE,hf,Zc2]
 rw [e]
 have hx:=fun es S hS=>ZvC ds es S hS i t f d hd ft.cols ((h.right.ok t mt).fg f mf) (ft.fg f mf).2 (h.ok.fit i t d hi hd) fd.1
 simp only [Zt] at gf
 simp only [Zh] at gd
 have hw0:w=0∨w=1:=by omega
 rcases hw0 with hw0 | hw0
 ·subst hw0
  have ek:ZF x ds f.tb=D0.rows.map (ZD t0 t0.key):=by
   simp only [ZF,hw,Int.toNat_natCast,ht0,hd0]
  have hx:=hx E0 _ s0
  rw [←ek] at hx
  generalize XA (Z1 true t f.cols) (ZF x ds f.tb) d.rows=z at *
  simp only [r1H,kI2,Za,Zt,List.cons_append,List.nil_append] at hx ⊢
  rw [Zbm]
  simp -implicitDefEqProofs only [go_sem,simprocAttr,Tryz.f48,gf,gd,xt,hx,Zh,Za,Zt,List.length_map]
 ·subst hw0
  have ek:ZF x ds f.tb=D1.rows.map (ZD t1 t1.key):=by
   simp only [ZF,hw,Int.toNat_natCast,ht1,hd1]
  have hx:=hx E1 _ s1
  rw [←ek] at hx
  generalize XA (Z1 true t f.cols) (ZF x ds f.tb) d.rows=z at *
  simp only [r1H,kI2,Za,Zt,List.cons_append,List.nil_append] at hx ⊢
  rw [Zbm]
  simp -implicitDefEqProofs only [go_sem,simprocAttr,Tryz.f48,gf,gd,xt,hx,Zh,Za,Zt,List.length_map]
theorem ZB1 (x:List Tbl) (ds:List Dat) (h:Led x ds) (hm:x.length=2) (t0 t1:Tbl) (D0 D1:Dat) (E0 E1:List (AV×AV)) (ht0:x[0]? = some t0) (hd0:ds[0]? = some D0) (s0:SetM E0 (D0.rows.map (ZD t0 t0.key))) (ht1:x[1]? = some t1) (hd1:ds[1]? = some D1) (s1:SetM E1 (D1.rows.map (ZD t1 t1.key))) (i:Nat) (t:Tbl) (d:Dat) (hi:x[i]? = some t) (hd:ds[i]? = some d) :
  R K (.call 43 [I (t.fgn.length:Int),.fn 48 [.ptr 0 0,.ptr 1 0,.ptr 2 0,.ptr 3 0,.ptr 4 0]] (kI2 x ds t i E0 E1))=some (I (YI x ds t d.rows t.fgn),(kI2 x ds t i E0 E1)):=by
 have hv:Wb (kI2 x ds t i E0 E1) (.fn 48 [.ptr 0 0,.ptr 1 0,.ptr 2 0,.ptr 3 0,.ptr 4 0]) (atE (Zc2 x ds t d.rows) t.fgn) t.fgn.length:=fun k hk=>by
  have hk:=ZAf x ds h hm t0 t1 D0 D1 E0 E1 ht0 hd0 s0 ht1 hd1 s1 i t d hi hd k hk
  simp only [kI2,Za,List.cons_append,List.nil_append] at hk ⊢
  simp -implicitDefEqProofs only [go_sem,simprocAttr,hk]
 have hc:=YS _ _ _ t.fgn.length (h.fit.tbl t (List.mem_of_getElem? hi)).fgn rfl hv
 rw [ZfU] at hc
 exact hc
theorem Zu7 (x:List Tbl) (ds:List Dat) (h:Led x ds) (hm:x.length=2) (t0 t1:Tbl) (D0 D1:Dat) (E0 E1:List (AV×AV)) (ht0:x[0]? = some t0) (hd0:ds[0]? = some D0) (s0:SetM E0 (D0.rows.map (ZD t0 t0.key))) (ht1:x[1]? = some t1) (hd1:ds[1]? = some D1) (s1:SetM E1 (D1.rows.map (ZD t1 t1.key))) (i:Nat) (hi:i < x.length) :
  R K (.call 47 [I (i:Int),.ptr 0 0,.ptr 1 0,.ptr 2 0] (kH2 x ds E0 E1))=some (I (Yl x ds i),kH2 x ds E0 E1):=by
 have hdl:=h.ok.len
 obtain ⟨t,ht⟩:=Ze (l:=x) (i:=i) (by omega)
 obtain ⟨d,hd⟩:=Ze (l:=ds) (i:=i) (by omega)
 have gt:=ZG ht
 have hx:=ZB1 x ds h hm t0 t1 D0 D1 E0 E1 ht0 hd0 s0 ht1 hd1 s1 i t d ht hd
 have ea:Yl x ds i=YI x ds t d.rows t.fgn:=by simp only [Yl,ht,hd]
 rw [ea]
 generalize YI x ds t d.rows t.fgn=z at *
 simp only [kH2,kI2,Za,List.cons_append,List.nil_append] at gt hx ⊢
 rw [Zha]
 simp -implicitDefEqProofs only [go_sem,simprocAttr,Tryz.f47,gt,hx,Za,List.length_map]
theorem ZvW (x:List Tbl) (ds:List Dat) (h:Led x ds) (hm:x.length=2) (t0 t1:Tbl) (D0 D1:Dat) (E0 E1:List (AV×AV)) (ht0:x[0]? = some t0) (hd0:ds[0]? = some D0) (s0:SetM E0 (D0.rows.map (ZD t0 t0.key))) (ht1:x[1]? = some t1) (hd1:ds[1]? = some D1) (s1:SetM E1 (D1.rows.map (ZD t1 t1.key))) :
  R K (.call 43 [I (x.length:Int),.fn 47 [.ptr 0 0,.ptr 1 0,.ptr 2 0]] (kH2 x ds E0 E1))=some (I (Wm x ds),kH2 x ds E0 E1):=by
 have hv:Wb (kH2 x ds E0 E1) (.fn 47 [.ptr 0 0,.ptr 1 0,.ptr 2 0]) (Yl x ds) x.length:=fun i hi=>by
  have hk:=Zu7 x ds h hm t0 t1 D0 D1 E0 E1 ht0 hd0 s0 ht1 hd1 s1 i hi
  simp only [kH2] at hk ⊢
  simp -implicitDefEqProofs only [go_sem,simprocAttr,hk]
 have hc:=YS _ _ _ x.length (by omega) rfl hv
 exact hc
abbrev kH3 (x:List Tbl) (ds:List Dat) (E0 E1 E2:List (AV×AV)):Zd:=[.cells [.rows (x.map Za)],.cells [.own 3 3],.cells [.rows (ds.map Zh)],.rows 1 [[.mp 4],[.mp 5],[.mp 6]] true,.map E0,.map E1,.map E2]
abbrev kI3 (x:List Tbl) (ds:List Dat) (t:Tbl) (i:Nat) (E0 E1 E2:List (AV×AV)):Zd:=[.cells (Za t),.cells [.own 5 3],.cells [.rows (x.map Za)],.cells [.rows (ds.map Zh)],.cells [I (i:Int)],.rows 1 [[.mp 6],[.mp 7],[.mp 8]] true,.map E0,.map E1,.map E2]
theorem ZA3 (x:List Tbl) (ds:List Dat) (h:Led x ds) (hm:x.length=3) (t0 t1 t2:Tbl) (D0 D1 D2:Dat) (E0 E1 E2:List (AV×AV)) (ht0:x[0]? = some t0) (hd0:ds[0]? = some D0) (s0:SetM E0 (D0.rows.map (ZD t0 t0.key))) (ht1:x[1]? = some t1) (hd1:ds[1]? = some D1) (s1:SetM E1 (D1.rows.map (ZD t1 t1.key))) (ht2:x[2]? = some t2) (hd2:ds[2]? = some D2) (s2:SetM E2 (D2.rows.map (ZD t2 t2.key))) (i:Nat) (t:Tbl) (d:Dat) (hi:x[i]? = some t) (hd:ds[i]? = some d) (k:Nat) (hk:k < t.fgn.length) :
  R K (.call 48 [I (k:Int),.ptr 0 0,.ptr 1 0,.ptr 2 0,.ptr 3 0,.ptr 4 0] (kI3 x ds t i E0 E1 E2))=some (I (atE (Zc2 x ds t d.rows) t.fgn k),(kI3 x ds t i E0 E1 E2)):=by
 obtain ⟨f,hf⟩:=Ze (l:=t.fgn) (i:=k) (by omega)
 have mf:=List.mem_of_getElem? hf
 have mt:=List.mem_of_getElem? hi
 have gf:=Xz hf
 have gd:=YE hd
 have ft:=h.fit.tbl t mt
 have fd:=h.few.rows d (List.mem_of_getElem? hd)
 obtain ⟨w,u,g,hw,hu,hg⟩:=h.to mt mf
 have xt:=Zbn x f.tb h.fit.len
 rw [hw] at xt
 have hwl:=(List.getElem?_eq_some_iff.1 hu).1
 rw [hm] at hwl
 have e:atE (Zc2 x ds t d.rows) t.fgn k=XA (Z1 true t f.cols) (ZF x ds f.tb) d.rows:=by simp only [atE,hf,Zc2]
 rw [e]
 have hx:=fun es S hS=>ZvC ds es S hS i t f d hd ft.cols ((h.right.ok t mt).fg f mf) (ft.fg f mf).2 (h.ok.fit i t d hi hd) fd.1
 simp only [Zt] at gf
 simp only [Zh] at gd
 have hw0:w=0∨w=1∨w=2:=by omega
 rcases hw0 with hw0 | hw0 | hw0
 ·subst hw0
  have ek:ZF x ds f.tb=D0.rows.map (ZD t0 t0.key):=by
   simp only [ZF,hw,Int.toNat_natCast,ht0,hd0]
  have hx:=hx E0 _ s0
  rw [←ek] at hx
  generalize XA (Z1 true t f.cols) (ZF x ds f.tb) d.rows=z at *
  simp only [r1H,kI3,Za,Zt,List.cons_append,List.nil_append] at hx ⊢
  rw [Zbm]
  simp -implicitDefEqProofs only [go_sem,simprocAttr,Tryz.f48,gf,gd,xt,hx,Zh,Za,Zt,List.length_map]
 ·subst hw0
  have ek:ZF x ds f.tb=D1.rows.map (ZD t1 t1.key):=by
   simp only [ZF,hw,Int.toNat_natCast,ht1,hd1]
  have hx:=hx E1 _ s1
  rw [←ek] at hx
  generalize XA (Z1 true t f.cols) (ZF x ds f.tb) d.rows=z at *
  simp only [r1H,kI3,Za,Zt,List.cons_append,List.nil_append] at hx ⊢
  rw [Zbm]
  simp -implicitDefEqProofs only [go_sem,simprocAttr,Tryz.f48,gf,gd,xt,hx,Zh,Za,Zt,List.length_map]
 ·subst hw0
  have ek:ZF x ds f.tb=D2.rows.map (ZD t2 t2.key):=by
   simp only [ZF,hw,Int.toNat_natCast,ht2,hd2]
  have hx:=hx E2 _ s2
  rw [←ek] at hx
  generalize XA (Z1 true t f.cols) (ZF x ds f.tb) d.rows=z at *
  simp only [r1H,kI3,Za,Zt,List.cons_append,List.nil_append] at hx ⊢
  rw [Zbm]
  simp -implicitDefEqProofs only [go_sem,simprocAttr,Tryz.f48,gf,gd,xt,hx,Zh,Za,Zt,List.length_map]
theorem Zz3 (x:List Tbl) (ds:List Dat) (h:Led x ds) (hm:x.length=3) (t0 t1 t2:Tbl) (D0 D1 D2:Dat) (E0 E1 E2:List (AV×AV)) (ht0:x[0]? = some t0) (hd0:ds[0]? = some D0) (s0:SetM E0 (D0.rows.map (ZD t0 t0.key))) (ht1:x[1]? = some t1) (hd1:ds[1]? = some D1) (s1:SetM E1 (D1.rows.map (ZD t1 t1.key))) (ht2:x[2]? = some t2) (hd2:ds[2]? = some D2) (s2:SetM E2 (D2.rows.map (ZD t2 t2.key))) (i:Nat) (t:Tbl) (d:Dat) (hi:x[i]? = some t) (hd:ds[i]? = some d) :
  R K (.call 43 [I (t.fgn.length:Int),.fn 48 [.ptr 0 0,.ptr 1 0,.ptr 2 0,.ptr 3 0,.ptr 4 0]] (kI3 x ds t i E0 E1 E2))=some (I (YI x ds t d.rows t.fgn),(kI3 x ds t i E0 E1 E2)):=by
 have hv:Wb (kI3 x ds t i E0 E1 E2) (.fn 48 [.ptr 0 0,.ptr 1 0,.ptr 2 0,.ptr 3 0,.ptr 4 0]) (atE (Zc2 x ds t d.rows) t.fgn) t.fgn.length:=fun k hk=>by
  have hk:=ZA3 x ds h hm t0 t1 t2 D0 D1 D2 E0 E1 E2 ht0 hd0 s0 ht1 hd1 s1 ht2 hd2 s2 i t d hi hd k hk
  simp only [kI3,Za,List.cons_append,List.nil_append] at hk ⊢
  simp -implicitDefEqProofs only [go_sem,simprocAttr,hk]
 have hc:=YS _ _ _ t.fgn.length (h.fit.tbl t (List.mem_of_getElem? hi)).fgn rfl hv
 rw [ZfU] at hc
 exact hc
theorem ZvX (x:List Tbl) (ds:List Dat) (h:Led x ds) (hm:x.length=3) (t0 t1 t2:Tbl) (D0 D1 D2:Dat) (E0 E1 E2:List (AV×AV)) (ht0:x[0]? = some t0) (hd0:ds[0]? = some D0) (s0:SetM E0 (D0.rows.map (ZD t0 t0.key))) (ht1:x[1]? = some t1) (hd1:ds[1]? = some D1) (s1:SetM E1 (D1.rows.map (ZD t1 t1.key))) (ht2:x[2]? = some t2) (hd2:ds[2]? = some D2) (s2:SetM E2 (D2.rows.map (ZD t2 t2.key))) (i:Nat) (hi:i < x.length) :
  R K (.call 47 [I (i:Int),.ptr 0 0,.ptr 1 0,.ptr 2 0] (kH3 x ds E0 E1 E2))=some (I (Yl x ds i),kH3 x ds E0 E1 E2):=by
 have hdl:=h.ok.len
 obtain ⟨t,ht⟩:=Ze (l:=x) (i:=i) (by omega)
 obtain ⟨d,hd⟩:=Ze (l:=ds) (i:=i) (by omega)
 have gt:=ZG ht
 have hx:=Zz3 x ds h hm t0 t1 t2 D0 D1 D2 E0 E1 E2 ht0 hd0 s0 ht1 hd1 s1 ht2 hd2 s2 i t d ht hd
 have ea:Yl x ds i=YI x ds t d.rows t.fgn:=by simp only [Yl,ht,hd]
 rw [ea]
 generalize YI x ds t d.rows t.fgn=z at *
 simp only [kH3,kI3,Za,List.cons_append,List.nil_append] at gt hx ⊢
 rw [Zha]
 simp -implicitDefEqProofs only [go_sem,simprocAttr,Tryz.f47,gt,hx,Za,List.length_map]
theorem ZuF (x:List Tbl) (ds:List Dat) (h:Led x ds) (hm:x.length=3) (t0 t1 t2:Tbl) (D0 D1 D2:Dat) (E0 E1 E2:List (AV×AV)) (ht0:x[0]? = some t0) (hd0:ds[0]? = some D0) (s0:SetM E0 (D0.rows.map (ZD t0 t0.key))) (ht1:x[1]? = some t1) (hd1:ds[1]? = some D1) (s1:SetM E1 (D1.rows.map (ZD t1 t1.key))) (ht2:x[2]? = some t2) (hd2:ds[2]? = some D2) (s2:SetM E2 (D2.rows.map (ZD t2 t2.key))) :
  R K (.call 43 [I (x.length:Int),.fn 47 [.ptr 0 0,.ptr 1 0,.ptr 2 0]] (kH3 x ds E0 E1 E2))=some (I (Wm x ds),kH3 x ds E0 E1 E2):=by
 have hv:Wb (kH3 x ds E0 E1 E2) (.fn 47 [.ptr 0 0,.ptr 1 0,.ptr 2 0]) (Yl x ds) x.length:=fun i hi=>by
  have hk:=ZvX x ds h hm t0 t1 t2 D0 D1 D2 E0 E1 E2 ht0 hd0 s0 ht1 hd1 s1 ht2 hd2 s2 i hi
  simp only [kH3] at hk ⊢
  simp -implicitDefEqProofs only [go_sem,simprocAttr,hk]
 have hc:=YS _ _ _ x.length (by omega) rfl hv
 exact hc
theorem ZBy (x:List Tbl) (ds:List Dat) (hx:FitX x) (hd:FitD ds) (hk:KeyOk x) (hl:ds.length=x.length) (i:Nat) (hi:i < x.length):R K (.call 44 [I (i:Int),.ptr 0 0,.ptr 1 0] (dfH x ds))=some (I (Zbz x ds i),dfH x ds):=by
 obtain ⟨t,ht⟩:=Ze (l:=x) (i:=i) (by omega)
 obtain ⟨d,he⟩:=Ze (l:=ds) (i:=i) (by omega)
 have gt:=ZG ht
 have gd:=YE he
 have mt:=List.mem_of_getElem? ht
 have fd:=hd.rows d (List.mem_of_getElem? he)
 have x0:=Zjh t (hx.tbl t mt) (hk.key t mt) (hk.idx t mt) d.rows fd.1 fd.2
 have e:Zbz x ds i=Zes t d.rows:=by simp only [Zbz,ht,he]
 rw [e]
 simp only [Zh] at gd
 simp only [ZX,Za] at x0 gt
 simp only [dfH]
 rw [Zsp]
 simp -implicitDefEqProofs only [go_sem,simprocAttr,Tryz.f44,gt,gd,x0,Zh,Za]
theorem ZlV (x:List Tbl) (ds:List Dat) (hx:FitX x) (hd:FitD ds) (hk:KeyOk x) (hl:ds.length=x.length):R K (.call 43 [I (x.length:Int),.fn 44 [.ptr 0 0,.ptr 1 0]] (dfH x ds))=some (I (evE (Zbz x ds) 0 x.length),dfH x ds):=by
 have hv:Wb (dfH x ds) (.fn 44 [.ptr 0 0,.ptr 1 0]) (Zbz x ds) x.length:=fun i hi=>by
  have hk:=ZBy x ds hx hd hk hl i hi
  simp only [dfH] at hk ⊢
  simp -implicitDefEqProofs only [go_sem,simprocAttr,hk]
 exact YS _ _ _ x.length hx.len rfl hv
theorem Zl5 (x:List Tbl) (ds:List Dat) (t0:Tbl) (hc:t0.cols.length≤1000000) (hk:t0.key.length≤1000000) (hN:Zr t0 t0.key) (rs:List (List Val)) (hrs:ZK t0 rs) (hl:rs.length≤1000000) :
  ∀ (q j:Nat) (es:List (AV×AV)) (S:List (List UInt8)),rs.length=j+q→SetM es S→∃ es',SetM es' ((rs.drop j).map (ZD t0 t0.key)++S)∧∀ (ks:List It) (jj:Int) (Bo:Code),Zf Tryz.f11 2 Bo→jj=(j:Int) →
  RL K (.run 11 0 (.code Bo::.lp Bo (some ([2,3,7,8,9,38,39,40,54,55,56],[])) 6::.blk 2 6::ks) [(2,.ptr 0 0),(3,.ptr 1 0),(7,.ptr 3 0),(8,I 0),(9,.ptr 4 0),(38,.rows (x.map Za)),(39,I 1),(40,I 0),(54,.rows (rs.map Zn)),(55,I (rs.length:Int)),(56,I jj)] [.cells [.rows (x.map Za)],.cells [.rows (ds.map Zh)],.rows 1 [[.mp 5]] true,.cells [.own 2 1],.cells (Za t0),.map es]) =
  R K (.run 11 0 ks [(2,.ptr 0 0),(3,.ptr 1 0),(7,.ptr 3 0),(38,.rows (x.map Za)),(39,I 1),(40,I 0)] [.cells [.rows (x.map Za)],.cells [.rows (ds.map Zh)],.rows 1 [[.mp 5]] true,.cells [.own 2 1],.cells (Za t0),.map es'])
 | 0,j,es,S,hq,hS=>by
  have d:¬(j:Int) < (rs.length:Int):=by omega
  refine ⟨es,by rw [List.drop_of_length_le (by omega)];exact hS,fun ks jj Bo hB hj=>?_⟩
  subst hj
  unfold Zf at hB
  simp -implicitDefEqProofs only [go_sem,simprocAttr,Tryz.f11,Zb] at hB
  subst hB
  rw [Zc]
  simp -implicitDefEqProofs only [go_sem,simprocAttr,d,Za]
 | q+1,j,es,S,hq,hS=>by
  have d:(j:Int) < (rs.length:Int):=by omega
  have h7:=Zs (i:=j) (n:=rs.length) (by omega) (by omega)
  obtain ⟨r,hr⟩:=Ze (l:=rs) (i:=j) (by omega)
  have gr:=Yj hr
  have xp:=WD t0 hc r (hrs r (List.mem_of_getElem? hr)) t0.key hN hk
  obtain ⟨v,hf,_,_,hS'⟩:=YY hS (ZD t0 t0.key r)
  obtain ⟨es',h',ih⟩:=Zl5 x ds t0  hc hk hN rs hrs hl q (j+1) _ _ (by omega) hS'
  refine ⟨es',h'.same fun s=>(by
   rw [ZE hr]
   simp only [List.map_cons,List.cons_append,List.mem_append,List.mem_cons]
   constructor
   ·rintro (h | h | h)
    ·exact .inr (.inl h)
    ·exact .inl h
    ·exact .inr (.inr h)
   ·rintro (h | h | h)
    ·exact .inr (.inl h)
    ·exact .inl h
    ·exact .inr (.inr h)),fun ks jj Bo hB hj=>?_⟩
  subst hj
  have ih:=ih ks _ Bo hB rfl
  simp only [Zn] at gr
  simp only [ZX,Za] at xp
  simp only [Za] at ih
  unfold Zf at hB
  simp -implicitDefEqProofs only [go_sem,simprocAttr,Tryz.f11,Zb] at hB
  subst hB
  rw [Zc]
  simp -implicitDefEqProofs only [go_sem,simprocAttr,d,h7,gr,xp,hf,Za,Zn]
  exact ih
theorem Zwc (x:List Tbl) (ds:List Dat) (hx:FitX x) (hd:FitD ds) (h0:WL x=0) (h1:Xl x ds=0) (hm:x.length=1):R K (.call 11 [WI x,YF ds] [])=some (I (Wm x ds),[]):=by
 have hmi:((x.length:Nat):Int)=1:=by omega
 have h:=ZhT hx hd h0 h1
 have hdl:=h.ok.len
 have y0:=W3 x hx
 rw [h0] at y0
 have y1:=Zh5 x ds hx.len
 have hn:x.map (·.nm)=ds.map (·.nm):=h.ok.nm
 rw [decide_eq_true hn] at y1
 have y2:=ZlV x ds hx hd (Zbo h0) hdl
 have e2:evE (Zbz x ds) 0 x.length=0:=by
  have:=h1
  unfold Xl at this
  rw [if_pos hn] at this
  exact this
 rw [e2,hmi] at y2
 obtain ⟨t0,ht0⟩:=Ze (l:=x) (i:=0) (by omega)
 obtain ⟨D0,hd0⟩:=Ze (l:=ds) (i:=0) (by omega)
 have gt0:at? (x.map Za) 0=some (Za t0):=ZG ht0
 have gd0:at? (ds.map Zh) 0=some (Zh D0):=YE hd0
 have mt0:=List.mem_of_getElem? ht0
 obtain ⟨E0,s0,l0⟩:=Zl5 x ds t0  (h.fit.tbl t0 mt0).cols (h.fit.tbl t0 mt0).key (h.right.ok t0 mt0).key D0.rows (h.ok.fit 0 t0 D0 ht0 hd0) (h.few.rows D0 (List.mem_of_getElem? hd0)).1 D0.rows.length 0 [] [] (by omega) SetM.nil
 rw [List.drop_zero,List.append_nil] at s0
 have l0:=fun ks B hB=>l0 ks 0 B hB rfl
 have y3:=Zwz x ds h hm t0 D0 E0 ht0 hd0 s0
 rw [hmi] at y3
 generalize Wm x ds=z at *
 simp only [dfH] at y2
 simp only [kH1] at y3
 simp only [Za] at l0 gt0
 simp only [Zh] at gd0
 rw [Zby]
 simp -implicitDefEqProofs only [go_sem,simprocAttr,Tryz.f11,We,hmi,y0,y1,y2,y3,gt0,gd0,bne,beq_self_eq_true,Bool.not_true,Za,Zh,List.length_map]
 rw [Zc]
 simp -implicitDefEqProofs only [go_sem,simprocAttr,We,hmi,y0,y1,y2,y3,gt0,gd0,bne,beq_self_eq_true,Bool.not_true,Za,Zh,List.length_map]
 rw [l0 _ _ (by rfl)]
 simp -implicitDefEqProofs only [go_sem,simprocAttr,We,hmi,y0,y1,y2,y3,gt0,gd0,bne,beq_self_eq_true,Bool.not_true,Za,Zh,List.length_map]
 rw [Zc]
 simp -implicitDefEqProofs only [go_sem,simprocAttr,We,hmi,y0,y1,y2,y3,gt0,gd0,bne,beq_self_eq_true,Bool.not_true,Za,Zh,List.length_map]
end Go.Ab
