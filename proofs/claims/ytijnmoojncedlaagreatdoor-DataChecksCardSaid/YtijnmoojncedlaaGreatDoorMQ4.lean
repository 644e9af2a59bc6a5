/- What is proved: contracts of the program's and the reference's functions in the evaluator, and plain laws on them. Conditions: as each states. -/
import Derived.Test.YtijnmoojncedlaaGreatDoorMQ3
set_option linter.unusedSimpArgs false
set_option linter.unusedSectionVars false
set_option linter.unusedVariables false
set_option maxRecDepth 100000
namespace Go.Ab
open Go Go.Proofs
theorem Zmg (x:List Tbl) (ds:List Dat) (t0:Tbl) (hc:t0.cols.length≤1000000) (hk:t0.key.length≤1000000) (hN:Zr t0 t0.key) (rs:List (List Val)) (hrs:ZK t0 rs) (hl:rs.length≤1000000) :
  ∀ (q j:Nat) (es:List (AV×AV)) (S:List (List UInt8)),rs.length=j+q→SetM es S→∃ es',SetM es' ((rs.drop j).map (ZD t0 t0.key)++S)∧∀ (ks:List It) (jj:Int) (Bo:Code),Zf Tryz.f11 2 Bo→jj=(j:Int) →
  RL K (.run 11 0 (.code Bo::.lp Bo (some ([2,3,7,8,9,38,39,40,54,55,56],[])) 6::.blk 2 6::ks) [(2,.ptr 0 0),(3,.ptr 1 0),(7,.ptr 3 0),(8,I 0),(9,.ptr 4 0),(38,.rows (x.map Za)),(39,I 2),(40,I 0),(54,.rows (rs.map Zn)),(55,I (rs.length:Int)),(56,I jj)] [.cells [.rows (x.map Za)],.cells [.rows (ds.map Zh)],.rows 1 [[.mp 5],[.nilm]] true,.cells [.own 2 2],.cells (Za t0),.map es]) =
  R K (.run 11 0 ks [(2,.ptr 0 0),(3,.ptr 1 0),(7,.ptr 3 0),(38,.rows (x.map Za)),(39,I 2),(40,I 0)] [.cells [.rows (x.map Za)],.cells [.rows (ds.map Zh)],.rows 1 [[.mp 5],[.nilm]] true,.cells [.own 2 2],.cells (Za t0),.map es'])
 | 0,j,es,S,hq,hS=>by
  have d:¬(j:Int) < (rs.length:Int):=by omega
  refine ⟨es,by rw [List.drop_of_length_le (by omega)];exact hS,fun ks jj Bo hB hj=>?_⟩
  subst hj
  unfold Zf at hB
  simp -implicitDefEqProofs only [go_sem,simprocAttr,Tryz.f11,Zb] at hB
  subst hB
  rw [Zc]
  simp -implicitDefEqProofs only [go_sem,simprocAttr,d,Za]
 | q+1,j,es,S,hq,hS=>by
  have d:(j:Int) < (rs.length:Int):=by omega
  have h7:=Zs (i:=j) (n:=rs.length) (by omega) (by omega)
  obtain ⟨r,hr⟩:=Ze (l:=rs) (i:=j) (by omega)
  have gr:=Yj hr
  have xp:=WD t0 hc r (hrs r (List.mem_of_getElem? hr)) t0.key hN hk
  obtain ⟨v,hf,_,_,hS'⟩:=YY hS (ZD t0 t0.key r)
  obtain ⟨es',h',ih⟩:=Zmg x ds t0  hc hk hN rs hrs hl q (j+1) _ _ (by omega) hS'
  refine ⟨es',h'.same fun s=>(by
   rw [ZE hr]
   simp only [List.map_cons,List.cons_append,List.mem_append,List.mem_cons]
   constructor
   ·rintro (h | h | h)
    ·exact .inr (.inl h)
    ·exact .inl h
    ·exact .inr (.inr h)
   ·rintro (h | h | h)
    ·exact .inr (.inl h)
    ·exact .inl h
    ·exact .inr (.inr h)),fun ks jj Bo hB hj=>?_⟩
  subst hj
  have ih:=ih ks _ Bo hB rfl
  simp only [Zn] at gr
  simp only [ZX,Za] at xp
  simp only [Za] at ih
  unfold Zf at hB
  simp -implicitDefEqProofs only [go_sem,simprocAttr,Tryz.f11,Zb] at hB
  subst hB
  rw [Zc]
  simp -implicitDefEqProofs only [go_sem,simprocAttr,d,h7,gr,xp,hf,Za,Zn]
  exact ih
theorem ZmU (x:List Tbl) (ds:List Dat) (t0 t1:Tbl) (E0:List (AV×AV)) (hc:t1.cols.length≤1000000) (hk:t1.key.length≤1000000) (hN:Zr t1 t1.key) (rs:List (List Val)) (hrs:ZK t1 rs) (hl:rs.length≤1000000) :
  ∀ (q j:Nat) (es:List (AV×AV)) (S:List (List UInt8)),rs.length=j+q→SetM es S→∃ es',SetM es' ((rs.drop j).map (ZD t1 t1.key)++S)∧∀ (ks:List It) (jj:Int) (Bo:Code),Zf Tryz.f11 2 Bo→jj=(j:Int) →
  RL K (.run 11 0 (.code Bo::.lp Bo (some ([2,3,7,8,9,38,39,40,54,55,56],[])) 8::.blk 2 8::ks) [(2,.ptr 0 0),(3,.ptr 1 0),(7,.ptr 3 0),(8,I 1),(9,.ptr 6 0),(38,.rows (x.map Za)),(39,I 2),(40,I 1),(54,.rows (rs.map Zn)),(55,I (rs.length:Int)),(56,I jj)] [.cells [.rows (x.map Za)],.cells [.rows (ds.map Zh)],.rows 1 [[.mp 5],[.mp 7]] true,.cells [.own 2 2],.cells (Za t0),.map E0,.cells (Za t1),.map es]) =
  R K (.run 11 0 ks [(2,.ptr 0 0),(3,.ptr 1 0),(7,.ptr 3 0),(38,.rows (x.map Za)),(39,I 2),(40,I 1)] [.cells [.rows (x.map Za)],.cells [.rows (ds.map Zh)],.rows 1 [[.mp 5],[.mp 7]] true,.cells [.own 2 2],.cells (Za t0),.map E0,.cells (Za t1),.map es'])
 | 0,j,es,S,hq,hS=>by
  have d:¬(j:Int) < (rs.length:Int):=by omega
  refine ⟨es,by rw [List.drop_of_length_le (by omega)];exact hS,fun ks jj Bo hB hj=>?_⟩
  subst hj
  unfold Zf at hB
  simp -implicitDefEqProofs only [go_sem,simprocAttr,Tryz.f11,Zb] at hB
  subst hB
  rw [Zc]
  simp -implicitDefEqProofs only [go_sem,simprocAttr,d,Za]
 | q+1,j,es,S,hq,hS=>by
  have d:(j:Int) < (rs.length:Int):=by omega
  have h7:=Zs (i:=j) (n:=rs.length) (by omega) (by omega)
  obtain ⟨r,hr⟩:=Ze (l:=rs) (i:=j) (by omega)
  have gr:=Yj hr
  have xp:=WD t1 hc r (hrs r (List.mem_of_getElem? hr)) t1.key hN hk
  obtain ⟨v,hf,_,_,hS'⟩:=YY hS (ZD t1 t1.key r)
  obtain ⟨es',h',ih⟩:=ZmU x ds t0 t1 E0 hc hk hN rs hrs hl q (j+1) _ _ (by omega) hS'
  refine ⟨es',h'.same fun s=>(by
   rw [ZE hr]
   simp only [List.map_cons,List.cons_append,List.mem_append,List.mem_cons]
   constructor
   ·rintro (h | h | h)
    ·exact .inr (.inl h)
    ·exact .inl h
    ·exact .inr (.inr h)
   ·rintro (h | h | h)
    ·exact .inr (.inl h)
    ·exact .inl h
    ·exact .inr (.inr h)),fun ks jj Bo hB hj=>?_⟩
  subst hj
  have ih:=ih ks _ Bo hB rfl
  simp only [Zn] at gr
  simp only [ZX,Za] at xp
  simp only [Za] at ih
  unfold Zf at hB
  simp -implicitDefEqProofs only [go_sem,simprocAttr,Tryz.f11,Zb] at hB
  subst hB
  rw [Zc]
  simp -implicitDefEqProofs only [go_sem,simprocAttr,d,h7,gr,xp,hf,Za,Zn]
  exact ih
theorem Zuy (x:List Tbl) (ds:List Dat) (hx:FitX x) (hd:FitD ds) (h0:WL x=0) (h1:Xl x ds=0) (hm:x.length=2):R K (.call 11 [WI x,YF ds] [])=some (I (Wm x ds),[]):=by
 have hmi:((x.length:Nat):Int)=2:=by omega
 have h:=ZhT hx hd h0 h1
 have hdl:=h.ok.len
 have y0:=W3 x hx
 rw [h0] at y0
 have y1:=Zh5 x ds hx.len
 have hn:x.map (·.nm)=ds.map (·.nm):=h.ok.nm
 rw [decide_eq_true hn] at y1
 have y2:=ZlV x ds hx hd (Zbo h0) hdl
 have e2:evE (Zbz x ds) 0 x.length=0:=by
  have:=h1
  unfold Xl at this
  rw [if_pos hn] at this
  exact this
 rw [e2,hmi] at y2
 obtain ⟨t0,ht0⟩:=Ze (l:=x) (i:=0) (by omega)
 obtain ⟨D0,hd0⟩:=Ze (l:=ds) (i:=0) (by omega)
 have gt0:at? (x.map Za) 0=some (Za t0):=ZG ht0
 have gd0:at? (ds.map Zh) 0=some (Zh D0):=YE hd0
 have mt0:=List.mem_of_getElem? ht0
 obtain ⟨E0,s0,l0⟩:=Zmg x ds t0  (h.fit.tbl t0 mt0).cols (h.fit.tbl t0 mt0).key (h.right.ok t0 mt0).key D0.rows (h.ok.fit 0 t0 D0 ht0 hd0) (h.few.rows D0 (List.mem_of_getElem? hd0)).1 D0.rows.length 0 [] [] (by omega) SetM.nil
 rw [List.drop_zero,List.append_nil] at s0
 have l0:=fun ks B hB=>l0 ks 0 B hB rfl
 obtain ⟨t1,ht1⟩:=Ze (l:=x) (i:=1) (by omega)
 obtain ⟨D1,hd1⟩:=Ze (l:=ds) (i:=1) (by omega)
 have gt1:at? (x.map Za) 1=some (Za t1):=ZG ht1
 have gd1:at? (ds.map Zh) 1=some (Zh D1):=YE hd1
 have mt1:=List.mem_of_getElem? ht1
 obtain ⟨E1,s1,l1⟩:=ZmU x ds t0 t1 E0 (h.fit.tbl t1 mt1).cols (h.fit.tbl t1 mt1).key (h.right.ok t1 mt1).key D1.rows (h.ok.fit 1 t1 D1 ht1 hd1) (h.few.rows D1 (List.mem_of_getElem? hd1)).1 D1.rows.length 0 [] [] (by omega) SetM.nil
 rw [List.drop_zero,List.append_nil] at s1
 have l1:=fun ks B hB=>l1 ks 0 B hB rfl
 have y3:=ZvW x ds h hm t0 t1 D0 D1 E0 E1 ht0 hd0 s0 ht1 hd1 s1
 rw [hmi] at y3
 generalize Wm x ds=z at *
 simp only [dfH] at y2
 simp only [kH2] at y3
 simp only [Za] at l0 gt0 l1 gt1
 simp only [Zh] at gd0 gd1
 rw [Zby]
 simp -implicitDefEqProofs only [go_sem,simprocAttr,Tryz.f11,Y2,hmi,y0,y1,y2,y3,gt0,gd0,gt1,gd1,bne,beq_self_eq_true,Bool.not_true,Za,Zh,List.length_map]
 rw [Zc]
 simp -implicitDefEqProofs only [go_sem,simprocAttr,Y2,hmi,y0,y1,y2,y3,gt0,gd0,gt1,gd1,bne,beq_self_eq_true,Bool.not_true,Za,Zh,List.length_map]
 rw [l0 _ _ (by rfl)]
 simp -implicitDefEqProofs only [go_sem,simprocAttr,Y2,hmi,y0,y1,y2,y3,gt0,gd0,gt1,gd1,bne,beq_self_eq_true,Bool.not_true,Za,Zh,List.length_map]
 rw [Zc]
 simp -implicitDefEqProofs only [go_sem,simprocAttr,Y2,hmi,y0,y1,y2,y3,gt0,gd0,gt1,gd1,bne,beq_self_eq_true,Bool.not_true,Za,Zh,List.length_map]
 rw [l1 _ _ (by rfl)]
 simp -implicitDefEqProofs only [go_sem,simprocAttr,Y2,hmi,y0,y1,y2,y3,gt0,gd0,gt1,gd1,bne,beq_self_eq_true,Bool.not_true,Za,Zh,List.length_map]
 rw [Zc]
 simp -implicitDefEqProofs only [go_sem,simprocAttr,Y2,hmi,y0,y1,y2,y3,gt0,gd0,gt1,gd1,bne,beq_self_eq_true,Bool.not_true,Za,Zh,List.length_map]
theorem ZlZ (x:List Tbl) (ds:List Dat) (t0:Tbl) (hc:t0.cols.length≤1000000) (hk:t0.key.length≤1000000) (hN:Zr t0 t0.key) (rs:List (List Val)) (hrs:ZK t0 rs) (hl:rs.length≤1000000) :
  ∀ (q j:Nat) (es:List (AV×AV)) (S:List (List UInt8)),rs.length=j+q→SetM es S→∃ es',SetM es' ((rs.drop j).map (ZD t0 t0.key)++S)∧∀ (ks:List It) (jj:Int) (Bo:Code),Zf Tryz.f11 2 Bo→jj=(j:Int) →
  RL K (.run 11 0 (.code Bo::.lp Bo (some ([2,3,7,8,9,38,39,40,54,55,56],[])) 6::.blk 2 6::ks) [(2,.ptr 0 0),(3,.ptr 1 0),(7,.ptr 3 0),(8,I 0),(9,.ptr 4 0),(38,.rows (x.map Za)),(39,I 3),(40,I 0),(54,.rows (rs.map Zn)),(55,I (rs.length:Int)),(56,I jj)] [.cells [.rows (x.map Za)],.cells [.rows (ds.map Zh)],.rows 1 [[.mp 5],[.nilm],[.nilm]] true,.cells [.own 2 3],.cells (Za t0),.map es]) =
  R K (.run 11 0 ks [(2,.ptr 0 0),(3,.ptr 1 0),(7,.ptr 3 0),(38,.rows (x.map Za)),(39,I 3),(40,I 0)] [.cells [.rows (x.map Za)],.cells [.rows (ds.map Zh)],.rows 1 [[.mp 5],[.nilm],[.nilm]] true,.cells [.own 2 3],.cells (Za t0),.map es'])
 | 0,j,es,S,hq,hS=>by
  have d:¬(j:Int) < (rs.length:Int):=by omega
  refine ⟨es,by rw [List.drop_of_length_le (by omega)];exact hS,fun ks jj Bo hB hj=>?_⟩
  subst hj
  unfold Zf at hB
  simp -implicitDefEqProofs only [go_sem,simprocAttr,Tryz.f11,Zb] at hB
  subst hB
  rw [Zc]
  simp -implicitDefEqProofs only [go_sem,simprocAttr,d,Za]
 | q+1,j,es,S,hq,hS=>by
  have d:(j:Int) < (rs.length:Int):=by omega
  have h7:=Zs (i:=j) (n:=rs.length) (by omega) (by omega)
  obtain ⟨r,hr⟩:=Ze (l:=rs) (i:=j) (by omega)
  have gr:=Yj hr
  have xp:=WD t0 hc r (hrs r (List.mem_of_getElem? hr)) t0.key hN hk
  obtain ⟨v,hf,_,_,hS'⟩:=YY hS (ZD t0 t0.key r)
  obtain ⟨es',h',ih⟩:=ZlZ x ds t0  hc hk hN rs hrs hl q (j+1) _ _ (by omega) hS'
  refine ⟨es',h'.same fun s=>(by
   rw [ZE hr]
   simp only [List.map_cons,List.cons_append,List.mem_append,List.mem_cons]
   constructor
   ·rintro (h | h | h)
    ·exact .inr (.inl h)
    ·exact .inl h
    ·exact .inr (.inr h)
   ·rintro (h | h | h)
    ·exact .inr (.inl h)
    ·exact .inl h
    ·exact .inr (.inr h)),fun ks jj Bo hB hj=>?_⟩
  subst hj
  have ih:=ih ks _ Bo hB rfl
  simp only [Zn] at gr
  simp only [ZX,Za] at xp
  simp only [Za] at ih
  unfold Zf at hB
  simp -implicitDefEqProofs only [go_sem,simprocAttr,Tryz.f11,Zb] at hB
  subst hB
  rw [Zc]
  simp -implicitDefEqProofs only [go_sem,simprocAttr,d,h7,gr,xp,hf,Za,Zn]
  exact ih
theorem ZmZ (x:List Tbl) (ds:List Dat) (t0 t1:Tbl) (E0:List (AV×AV)) (hc:t1.cols.length≤1000000) (hk:t1.key.length≤1000000) (hN:Zr t1 t1.key) (rs:List (List Val)) (hrs:ZK t1 rs) (hl:rs.length≤1000000) :
  ∀ (q j:Nat) (es:List (AV×AV)) (S:List (List UInt8)),rs.length=j+q→SetM es S→∃ es',SetM es' ((rs.drop j).map (ZD t1 t1.key)++S)∧∀ (ks:List It) (jj:Int) (Bo:Code),Zf Tryz.f11 2 Bo→jj=(j:Int) →
  RL K (.run 11 0 (.code Bo::.lp Bo (some ([2,3,7,8,9,38,39,40,54,55,56],[])) 8::.blk 2 8::ks) [(2,.ptr 0 0),(3,.ptr 1 0),(7,.ptr 3 0),(8,I 1),(9,.ptr 6 0),(38,.rows (x.map Za)),(39,I 3),(40,I 1),(54,.rows (rs.map Zn)),(55,I (rs.length:Int)),(56,I jj)] [.cells [.rows (x.map Za)],.cells [.rows (ds.map Zh)],.rows 1 [[.mp 5],[.mp 7],[.nilm]] true,.cells [.own 2 3],.cells (Za t0),.map E0,.cells (Za t1),.map es]) =
  R K (.run 11 0 ks [(2,.ptr 0 0),(3,.ptr 1 0),(7,.ptr 3 0),(38,.rows (x.map Za)),(39,I 3),(40,I 1)] [.cells [.rows (x.map Za)],.cells [.rows (ds.map Zh)],.rows 1 [[.mp 5],[.mp 7],[.nilm]] true,.cells [.own 2 3],.cells (Za t0),.map E0,.cells (Za t1),.map es'])
 | 0,j,es,S,hq,hS=>by
  have d:¬(j:Int) < (rs.length:Int):=by omega
  refine ⟨es,by rw [List.drop_of_length_le (by omega)];exact hS,fun ks jj Bo hB hj=>?_⟩
  subst hj
  unfold Zf at hB
  simp -implicitDefEqProofs only [go_sem,simprocAttr,Tryz.f11,Zb] at hB
  subst hB
  rw [Zc]
  simp -implicitDefEqProofs only [go_sem,simprocAttr,d,Za]
 | q+1,j,es,S,hq,hS=>by
  have d:(j:Int) < (rs.length:Int):=by omega
  have h7:=Zs (i:=j) (n:=rs.length) (by omega) (by omega)
  obtain ⟨r,hr⟩:=Ze (l:=rs) (i:=j) (by omega)
  have gr:=Yj hr
  have xp:=WD t1 hc r (hrs r (List.mem_of_getElem? hr)) t1.key hN hk
  obtain ⟨v,hf,_,_,hS'⟩:=YY hS (ZD t1 t1.key r)
  obtain ⟨es',h',ih⟩:=ZmZ x ds t0 t1 E0 hc hk hN rs hrs hl q (j+1) _ _ (by omega) hS'
  refine ⟨es',h'.same fun s=>(by
   rw [ZE hr]
   simp only [List.map_cons,List.cons_append,List.mem_append,List.mem_cons]
   constructor
   ·rintro (h | h | h)
    ·exact .inr (.inl h)
    ·exact .inl h
    ·exact .inr (.inr h)
   ·rintro (h | h | h)
    ·exact .inr (.inl h)
    ·exact .inl h
    ·exact .inr (.inr h)),fun ks jj Bo hB hj=>?_⟩
  subst hj
  have ih:=ih ks _ Bo hB rfl
  simp only [Zn] at gr
  simp only [ZX,Za] at xp
  simp only [Za] at ih
  unfold Zf at hB
  simp -implicitDefEqProofs only [go_sem,simprocAttr,Tryz.f11,Zb] at hB
  subst hB
  rw [Zc]
  simp -implicitDefEqProofs only [go_sem,simprocAttr,d,h7,gr,xp,hf,Za,Zn]
  exact ih
theorem Zl6 (x:List Tbl) (ds:List Dat) (t0 t1 t2:Tbl) (E0 E1:List (AV×AV)) (hc:t2.cols.length≤1000000) (hk:t2.key.length≤1000000) (hN:Zr t2 t2.key) (rs:List (List Val)) (hrs:ZK t2 rs) (hl:rs.length≤1000000) :
  ∀ (q j:Nat) (es:List (AV×AV)) (S:List (List UInt8)),rs.length=j+q→SetM es S→∃ es',SetM es' ((rs.drop j).map (ZD t2 t2.key)++S)∧∀ (ks:List It) (jj:Int) (Bo:Code),Zf Tryz.f11 2 Bo→jj=(j:Int) →
  RL K (.run 11 0 (.code Bo::.lp Bo (some ([2,3,7,8,9,38,39,40,54,55,56],[])) 10::.blk 2 10::ks) [(2,.ptr 0 0),(3,.ptr 1 0),(7,.ptr 3 0),(8,I 2),(9,.ptr 8 0),(38,.rows (x.map Za)),(39,I 3),(40,I 2),(54,.rows (rs.map Zn)),(55,I (rs.length:Int)),(56,I jj)] [.cells [.rows (x.map Za)],.cells [.rows (ds.map Zh)],.rows 1 [[.mp 5],[.mp 7],[.mp 9]] true,.cells [.own 2 3],.cells (Za t0),.map E0,.cells (Za t1),.map E1,.cells (Za t2),.map es]) =
  R K (.run 11 0 ks [(2,.ptr 0 0),(3,.ptr 1 0),(7,.ptr 3 0),(38,.rows (x.map Za)),(39,I 3),(40,I 2)] [.cells [.rows (x.map Za)],.cells [.rows (ds.map Zh)],.rows 1 [[.mp 5],[.mp 7],[.mp 9]] true,.cells [.own 2 3],.cells (Za t0),.map E0,.cells (Za t1),.map E1,.cells (Za t2),.map es'])
 | 0,j,es,S,hq,hS=>by
  have d:¬(j:Int) < (rs.length:Int):=by omega
  refine ⟨es,by rw [List.drop_of_length_le (by omega)];exact hS,fun ks jj Bo hB hj=>?_⟩
  subst hj
  unfold Zf at hB
  simp -implicitDefEqProofs only [go_sem,simprocAttr,Tryz.f11,Zb] at hB
  subst hB
  rw [Zc]
  simp -implicitDefEqProofs only [go_sem,simprocAttr,d,Za]
 | q+1,j,es,S,hq,hS=>by
  have d:(j:Int) < (rs.length:Int):=by omega
  have h7:=Zs (i:=j) (n:=rs.length) (by omega) (by omega)
  obtain ⟨r,hr⟩:=Ze (l:=rs) (i:=j) (by omega)
  have gr:=Yj hr
  have xp:=WD t2 hc r (hrs r (List.mem_of_getElem? hr)) t2.key hN hk
  obtain ⟨v,hf,_,_,hS'⟩:=YY hS (ZD t2 t2.key r)
  obtain ⟨es',h',ih⟩:=Zl6 x ds t0 t1 t2 E0 E1 hc hk hN rs hrs hl q (j+1) _ _ (by omega) hS'
  refine ⟨es',h'.same fun s=>(by
   rw [ZE hr]
   simp only [List.map_cons,List.cons_append,List.mem_append,List.mem_cons]
   constructor
   ·rintro (h | h | h)
    ·exact .inr (.inl h)
    ·exact .inl h
    ·exact .inr (.inr h)
   ·rintro (h | h | h)
    ·exact .inr (.inl h)
    ·exact .inl h
    ·exact .inr (.inr h)),fun ks jj Bo hB hj=>?_⟩
  subst hj
  have ih:=ih ks _ Bo hB rfl
  simp only [Zn] at gr
  simp only [ZX,Za] at xp
  simp only [Za] at ih
  unfold Zf at hB
  simp -implicitDefEqProofs only [go_sem,simprocAttr,Tryz.f11,Zb] at hB
  subst hB
  rw [Zc]
  simp -implicitDefEqProofs only [go_sem,simprocAttr,d,h7,gr,xp,hf,Za,Zn]
  exact ih
theorem Zt6 (x:List Tbl) (ds:List Dat) (hx:FitX x) (hd:FitD ds) (h0:WL x=0) (h1:Xl x ds=0) (hm:x.length=3):R K (.call 11 [WI x,YF ds] [])=some (I (Wm x ds),[]):=by
 have hmi:((x.length:Nat):Int)=3:=by omega
 have h:=ZhT hx hd h0 h1
 have hdl:=h.ok.len
 have y0:=W3 x hx
 rw [h0] at y0
 have y1:=Zh5 x ds hx.len
 have hn:x.map (·.nm)=ds.map (·.nm):=h.ok.nm
 rw [decide_eq_true hn] at y1
 have y2:=ZlV x ds hx hd (Zbo h0) hdl
 have e2:evE (Zbz x ds) 0 x.length=0:=by
  have:=h1
  unfold Xl at this
  rw [if_pos hn] at this
  exact this
 rw [e2,hmi] at y2
 obtain ⟨t0,ht0⟩:=Ze (l:=x) (i:=0) (by omega)
 obtain ⟨D0,hd0⟩:=Ze (l:=ds) (i:=0) (by omega)
 have gt0:at? (x.map Za) 0=some (Za t0):=ZG ht0
 have gd0:at? (ds.map Zh) 0=some (Zh D0):=YE hd0
 have mt0:=List.mem_of_getElem? ht0
 obtain ⟨E0,s0,l0⟩:=ZlZ x ds t0  (h.fit.tbl t0 mt0).cols (h.fit.tbl t0 mt0).key (h.right.ok t0 mt0).key D0.rows (h.ok.fit 0 t0 D0 ht0 hd0) (h.few.rows D0 (List.mem_of_getElem? hd0)).1 D0.rows.length 0 [] [] (by omega) SetM.nil
 rw [List.drop_zero,List.append_nil] at s0
 have l0:=fun ks B hB=>l0 ks 0 B hB rfl
 obtain ⟨t1,ht1⟩:=Ze (l:=x) (i:=1) (by omega)
 obtain ⟨D1,hd1⟩:=Ze (l:=ds) (i:=1) (by omega)
 have gt1:at? (x.map Za) 1=some (Za t1):=ZG ht1
 have gd1:at? (ds.map Zh) 1=some (Zh D1):=YE hd1
 have mt1:=List.mem_of_getElem? ht1
 obtain ⟨E1,s1,l1⟩:=ZmZ x ds t0 t1 E0 (h.fit.tbl t1 mt1).cols (h.fit.tbl t1 mt1).key (h.right.ok t1 mt1).key D1.rows (h.ok.fit 1 t1 D1 ht1 hd1) (h.few.rows D1 (List.mem_of_getElem? hd1)).1 D1.rows.length 0 [] [] (by omega) SetM.nil
 rw [List.drop_zero,List.append_nil] at s1
 have l1:=fun ks B hB=>l1 ks 0 B hB rfl
 obtain ⟨t2,ht2⟩:=Ze (l:=x) (i:=2) (by omega)
 obtain ⟨D2,hd2⟩:=Ze (l:=ds) (i:=2) (by omega)
 have gt2:at? (x.map Za) 2=some (Za t2):=ZG ht2
 have gd2:at? (ds.map Zh) 2=some (Zh D2):=YE hd2
 have mt2:=List.mem_of_getElem? ht2
 obtain ⟨E2,s2,l2⟩:=Zl6 x ds t0 t1 t2 E0 E1 (h.fit.tbl t2 mt2).cols (h.fit.tbl t2 mt2).key (h.right.ok t2 mt2).key D2.rows (h.ok.fit 2 t2 D2 ht2 hd2) (h.few.rows D2 (List.mem_of_getElem? hd2)).1 D2.rows.length 0 [] [] (by omega) SetM.nil
 rw [List.drop_zero,List.append_nil] at s2
 have l2:=fun ks B hB=>l2 ks 0 B hB rfl
 have y3:=ZuF x ds h hm t0 t1 t2 D0 D1 D2 E0 E1 E2 ht0 hd0 s0 ht1 hd1 s1 ht2 hd2 s2
 rw [hmi] at y3
 generalize Wm x ds=z at *
 simp only [dfH] at y2
 simp only [kH3] at y3
 simp only [Za] at l0 gt0 l1 gt1 l2 gt2
 simp only [Zh] at gd0 gd1 gd2
 rw [Zby]
 simp -implicitDefEqProofs only [go_sem,simprocAttr,Tryz.f11,Yq,hmi,y0,y1,y2,y3,gt0,gd0,gt1,gd1,gt2,gd2,bne,beq_self_eq_true,Bool.not_true,Za,Zh,List.length_map]
 rw [Zc]
 simp -implicitDefEqProofs only [go_sem,simprocAttr,Yq,hmi,y0,y1,y2,y3,gt0,gd0,gt1,gd1,gt2,gd2,bne,beq_self_eq_true,Bool.not_true,Za,Zh,List.length_map]
 rw [l0 _ _ (by rfl)]
 simp -implicitDefEqProofs only [go_sem,simprocAttr,Yq,hmi,y0,y1,y2,y3,gt0,gd0,gt1,gd1,gt2,gd2,bne,beq_self_eq_true,Bool.not_true,Za,Zh,List.length_map]
 rw [Zc]
 simp -implicitDefEqProofs only [go_sem,simprocAttr,Yq,hmi,y0,y1,y2,y3,gt0,gd0,gt1,gd1,gt2,gd2,bne,beq_self_eq_true,Bool.not_true,Za,Zh,List.length_map]
 rw [l1 _ _ (by rfl)]
 simp -implicitDefEqProofs only [go_sem,simprocAttr,Yq,hmi,y0,y1,y2,y3,gt0,gd0,gt1,gd1,gt2,gd2,bne,beq_self_eq_true,Bool.not_true,Za,Zh,List.length_map]
 rw [Zc]
 simp -implicitDefEqProofs only [go_sem,simprocAttr,Yq,hmi,y0,y1,y2,y3,gt0,gd0,gt1,gd1,gt2,gd2,bne,beq_self_eq_true,Bool.not_true,Za,Zh,List.length_map]
 rw [l2 _ _ (by rfl)]
 simp -implicitDefEqProofs only [go_sem,simprocAttr,Yq,hmi,y0,y1,y2,y3,gt0,gd0,gt1,gd1,gt2,gd2,bne,beq_self_eq_true,Bool.not_true,Za,Zh,List.length_map]
 rw [Zc]
 simp -implicitDefEqProofs only [go_sem,simprocAttr,Yq,hmi,y0,y1,y2,y3,gt0,gd0,gt1,gd1,gt2,gd2,bne,beq_self_eq_true,Bool.not_true,Za,Zh,List.length_map]
theorem ZdW (x:List Tbl) (ds:List Dat) (hx:FitX x) (hd:FitD ds) (x1:1≤x.length) (x3:x.length≤3):R K (.call 11 [WI x,YF ds] [])=some (I (Zc6 x ds),[]):=by
 have y0:=W3 x hx
 have y1:=Zh5 x ds hx.len
 unfold Zc6
 by_cases h0:WL x=0
 ·rw [if_pos h0]
  by_cases h1:Xl x ds=0
  ·rw [if_pos h1]
   rcases (show x.length=1∨x.length=2∨x.length=3 by omega) with hm | hm | hm
   ·exact Zwc x ds hx hd h0 h1 hm
   ·exact Zuy x ds hx hd h0 h1 hm
   ·exact Zt6 x ds hx hd h0 h1 hm
  ·rw [if_neg h1]
   rw [h0] at y0
   by_cases hn:x.map (·.nm)=ds.map (·.nm)
   ·have y2:=ZlV x ds hx hd (Zbo h0) (by simpa using (congrArg List.length hn).symm)
    have e2:Xl x ds=evE (Zbz x ds) 0 x.length:=by rw [Xl,if_pos hn]
    rw [←e2] at y2
    rw [decide_eq_true hn] at y1
    have b1:(Xl x ds==0)=false:=by simpa using h1
    generalize Xl x ds=z at *
    simp only [dfH] at y2
    rw [Zby]
    simp -implicitDefEqProofs only [go_sem,simprocAttr,Tryz.f11,y0,y1,y2,b1,bne,beq_self_eq_true,Bool.not_true,List.length_map]
   ·have e2:Xl x ds=3:=by rw [Xl,if_neg hn]
    rw [decide_eq_false hn] at y1
    rw [e2]
    rw [Zby]
    simp -implicitDefEqProofs only [go_sem,simprocAttr,Tryz.f11,y0,y1,bne,beq_self_eq_true,Bool.not_false,List.length_map]
 ·have b0:(WL x==0)=false:=by simpa using h0
  rw [if_neg h0]
  generalize WL x=z at *
  rw [Zby]
  simp -implicitDefEqProofs only [go_sem,simprocAttr,Tryz.f11,y0,b0,bne]
theorem Sm.fit {ds:List Dat} {n:Nat} (h:Sm ds n) (hn:n≤1000):FitD ds :=
 ⟨by have:=h.1;omega,fun d hd=>⟨by have:=(h.2 d hd).1;omega,fun r hr=>by have:=(h.2 d hd).2 r hr;omega⟩⟩
section
variable {L:List Int}
theorem Zo2 (x:List Tbl) (n:Nat) (hn:n≤2):∀ (q j:Nat) (ds:List Dat) (a B:Int),n=j+q→Gd L a B→(100*q:Int)≤B→Sm ds (10+j) →
  ∃ (ds':List Dat) (a':Int),a≤a'∧a'≤a+100*q∧Sm ds' 12∧∀ (ks:List It) (Bo:Code) (jj:Int),Zf Tryz.f3 0 Bo→jj=(j:Int) →
  RL K (.run 3 0 (.code Bo::.lp Bo (some ([3,4,5,16,17],[])) 3::.blk 0 3::ks) [(3,.ptr 0 0),(4,.ptr 1 0),(5,.ptr 2 0),(16,I (n:Int)),(17,I jj)] [.cells [LR L,I a],.cells [.rows (x.map Za)],.cells [.rows (ds.map Zh)]]) =
  R K (.run 3 0 ks [(3,.ptr 0 0),(4,.ptr 1 0),(5,.ptr 2 0)] [.cells [LR L,I a'],.cells [.rows (x.map Za)],.cells [.rows (ds'.map Zh)]])
 | 0,j,ds,a,B,hq,hG,hB',hs=>by
  have d:¬(j:Int) < (n:Int):=by omega
  refine ⟨ds,a,by omega,by omega,hs.up (by omega),fun ks Bo jj hB hj=>?_⟩
  subst hj
  unfold Zf at hB
  simp -implicitDefEqProofs only [go_sem,simprocAttr,Tryz.f3,Zb] at hB
  subst hB
  rw [Zc]
  simp -implicitDefEqProofs only [go_sem,simprocAttr,d]
 | q+1,j,ds,a,B,hq,hG,hB',hs=>by
  have d:(j:Int) < (n:Int):=by omega
  have h7:=Zs (i:=j) (n:=n) (by omega) (by omega)
  by_cases h0:ds.length=0
  ·have d0:¬(0:Int) < (ds.length:Int):=by omega
   obtain ⟨ds',a',q1,q2,q3,ih⟩:=Zo2 x n hn q (j+1) ds a B (by omega) hG (by omega) (hs.up (by omega))
   refine ⟨ds',a',q1,by omega,q3,fun ks Bo jj hB hj=>?_⟩
   subst hj
   have ih:=ih ks Bo _ hB rfl
   unfold Zf at hB
   simp -implicitDefEqProofs only [go_sem,simprocAttr,Tryz.f3,Zb] at hB
   subst hB
   rw [Zc]
   simp -implicitDefEqProofs only [go_sem,simprocAttr,d,h7,d0,List.length_map]
   exact ih
  ·have d0:(0:Int) < (ds.length:Int):=by omega
   obtain ⟨dt,a1,x1,p1,p2,p3⟩:=ZlF ds (10+j) (by omega) (by omega) hs hG (by omega)
   obtain ⟨ds',a',q1,q2,q3,ih⟩:=Zo2 x n hn q (j+1) dt a1 (B - 100) (by omega) (hG.step _ _ (by omega) (by omega)) (by omega) p3
   refine ⟨ds',a',by omega,by omega,q3,fun ks Bo jj hB hj=>?_⟩
   subst hj
   have ih:=ih ks Bo _ hB rfl
   simp only [YF] at x1
   unfold Zf at hB
   simp -implicitDefEqProofs only [go_sem,simprocAttr,Tryz.f3,Zb] at hB
   subst hB
   rw [Zc]
   simp -implicitDefEqProofs only [go_sem,simprocAttr,d,h7,d0,x1,List.length_map]
   exact ih
end
theorem Zgs:R K (.call 10 [] [])=some (.bool true,[]):=ZaG rfl
theorem Zfb (L:List Int) (hL:L.length≤9223372036854775807):R K (.call 3 [LR L] [])=some (.bool true,[]):=by
 have hG:Gd L 0 200000:=⟨by omega,by omega,hL⟩
 obtain ⟨x,a1,x1,p1,p2,hx⟩:=ZoG hG (by omega)
 have G1:=hG.step a1 150000 (by omega) (by omega)
 obtain ⟨ds,a2,x2,p3,p4,hLd,hfew⟩:=Zwg G1 (by omega) x hx
 have G2:=G1.step a2 100000 (by omega) (by omega)
 obtain ⟨n,hn,x3⟩:=ZaH G2 (by omega) [0,1,1,2] (by decide) (by decide)
 have hb:0≤n∧n≤2:=(by decide:∀ x∈([0,1,1,2]:List Int),0≤x∧x≤2) n hn
 obtain ⟨k,rfl⟩:∃ k:Nat,n=(k:Int):=⟨n.toNat,by omega⟩
 simp only [List.map] at x3
 have hl3:=hx.sz.l3
 have hl1:=hx.sz.l1
 have hdl:=hLd.ok.len
 have hs:Sm ds 10:=⟨by omega,fun d hd=>⟨hfew d hd,fun r hr=>by
  obtain ⟨i,hi,he⟩:=List.mem_iff_getElem.1 hd
  obtain ⟨t,ht⟩:=Ze (l:=x) (i:=i) (by omega)
  have:=hLd.ok.fit i t d ht (by rw [List.getElem?_eq_getElem hi,he]) r hr
  have:=(hx.sz.tbl t (List.mem_of_getElem? ht)).cl
  omega⟩⟩
 obtain ⟨dt,a',q1,q2,hdt,l0⟩:=Zo2 (L:=L) x k (by omega) k 0 ds (a2+1) 99999 (by omega) (G2.step _ _ (by omega) (by omega)) (by omega) hs
 have l0:=fun ks B hB=>l0 ks B 0 hB rfl
 have G3:=G2.step a' 99000 (by omega) (by omega)
 have x4:=Y5 G3 (by omega) 12
 have G4:=G3.step (a'+1) 98000 (by omega) (by omega)
 obtain ⟨y,a5,x5,q4,q5,hy⟩:=Zow G4 (by omega) x 3 (by omega) hx.sz
 have hdf:=hdt.fit (by omega)
 have xp:=ZdW x dt (hx.sz.fit (by omega)) hdf hl1 hl3
 have xr:=ZdZ x dt (hx.sz.fit (by omega)) hdf hl1 hl3
 have yp:=ZdW y dt (hy.fit (by omega)) hdf hy.l1 hy.l3
 have yr:=ZdZ y dt (hy.fit (by omega)) hdf hy.l1 hy.l3
 generalize Zc6 x dt=e1 at *
 generalize Zc6 y dt=e2 at *
 generalize (Zw L a' 12==0)=b at *
 simp only [WI,YF] at x1 x2 x5 xp xr yp yr
 cases b with
 | true =>
  rw [ZqD]
  simp -implicitDefEqProofs only [go_sem,simprocAttr,Tryz.f3,x1,x2,x3]
  rw [l0 _ _ (by rfl)]
  simp -implicitDefEqProofs only [go_sem,simprocAttr,x4,x5,yp,yr,Zgs,beq_self_eq_true]
 | false =>
  rw [ZqD]
  simp -implicitDefEqProofs only [go_sem,simprocAttr,Tryz.f3,x1,x2,x3]
  rw [l0 _ _ (by rfl)]
  simp -implicitDefEqProofs only [go_sem,simprocAttr,x4,xp,xr,Zgs,beq_self_eq_true]
end Go.Ab
