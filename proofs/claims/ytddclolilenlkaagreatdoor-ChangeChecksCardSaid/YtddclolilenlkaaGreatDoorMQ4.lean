/- What is proved: contracts of the program's and the reference's functions in the evaluator, and plain laws on them. Conditions: as each states. -/
import Derived.Test.YtddclolilenlkaaGreatDoorMQ3
set_option linter.unusedSimpArgs false
set_option linter.unusedSectionVars false
set_option linter.unusedVariables false
set_option maxRecDepth 100000
namespace Go.Ab
open Go Go.Proofs Go.Proofs.Tryz
variable{i lt m:Nat}{X:List LT}{T:LT}{c:Chg}{x y:List Tbl}{a:AV}{H H' g:Za}{row:List AV}{t:Tbl}{D rs:List (List AV)}{W':LW}
attribute [-go_sem] Zy Zs ZH Z1 ZL Yd Z0 ZN
section
variable{h:Za}{kc lt i:Nat}{X:List LT}{T:LT}{c:Chg}
theorem Zg5(hs:SchAt h lt X)(s:Shut h)(hk:h[kc]?=some (.cells (kcC lt X.length i c)))(hi:X[i]?=some T)(p:c.kd=3)(hx:FitX (X.map LT.tbl))(hX:X.length≤10)(u:∀U∈X,U.fs.length≤1000)(P:c.nm.length≤100000000)(h2:lt≠2∧kc≠2∧2<h.length)(h3:∀U∈X,2∉U.pl):
  if Xw c.nm=false then R K (.call 120 [.ptr kc 0] h)=some (I 5,h++[.cells (Zb c)])
  else if 0≤ixN c.nm ((X.map LT.tbl).map (·.nm)) 0 then R K (.call 120 [.ptr kc 0] h)=some (I 6,h++[.cells (Zb c)])
  else ∃H,R K (.call 120 [.ptr kc 0] h)=some (I 0,H)∧MadeH h H kc (Ye (fun t=>t.nm) (((X.map LT.tbl).set i ⟨c.nm,T.tbl.cols,T.tbl.key,T.tbl.fgn,T.tbl.idx⟩).map (reT c.tb c.nm))):=by
 have r:h.length=h.length:=rfl;have Q:=(Vb.1 hk).1;have v:=(Vb.1 hs.tb).1;obtain⟨kl,kn⟩:=hs.kn hk;have nk:(kc==h.length)=false:=by rw[VR];omega
 have w:=ZfM c.nm P;have ca:=ZaE (X.map LT.tbl) c.nm hx.len;have sn:=fun t=>(hs.app t).snap [.str c.nm] [.str c.nm] rfl;cases ht:Xw c.nm with
 |false =>
  rw[ht]at w;rw[Vr rfl];rw[Zal];simp only[go_sem,simprocAttr,f120,p,hk,w,Zb,gA0 r,sA0 r,VN,Vl,Vi]
 |true =>
  rw[ht]at w;rw[Vm (by simp)];by_cases M:0≤ixN c.nm ((X.map LT.tbl).map (·.nm)) 0
  ·rw[Vr M];rw[Zal];simp only[go_sem,simprocAttr,f120,p,hk,gL hk,gL hs.tb,w,sn,ca,M,Zb,ZB,Zf,Vd,gA0 r,sA0 r,VN,VW,Vo,Vl,Vi]
  rw[Vm M];have C:=hs.renamed hi c.nm;generalize S:Blk.rows 5 ((X.map Zn).set i [.str c.nm,.own T.lc T.cols.length,.own T.lk T.key.length,.own T.lf T.fs.length,.own T.li T.is.length]) true=B at *;have g2:(X.map Zn)[i]?=some (Zn T):=by rw[Vj,hi];rfl
  have W:(h.set lt B).length=h.length:=Vq;have O:(h.set lt B)[kc]?=some (.cells (kcC lt X.length i c)):=by rw[Vc kl.symm];exact hk
  have gt:(h.set lt B)[lt]?=some B:=Vf v;have uB:∀x∈ZA B,x<h.length:=fun x hx=>by
   rw[←S]at hx;obtain⟨row,k,hx⟩:=Yy (show x∈Zz _ from hx);rcases VL k with k|rfl
   ·have:x∈ZA (.rows 5 (X.map Zn) true):=YH k x hx;exact Zt.1 s.cl x (Y5 hs.tb x this)
   refine hs.lo T (Ve hi) x ?_;simp only[Zg,locs,Vi,Vv,Ud,Vn,V3,UR]at hx;simp only[LT.pl,Vn,Vg];rcases hx with e|e|e|e
   ·exact .inl e
   ·exact .inr (.inl e)
   ·exact .inr (.inr (.inl e))
   exact .inr (.inr (.inr (.inl e)))
  have u1:Zi h.length (Zk (h.set lt B))=true:=ZM s.cl (Zt.2 uB);generalize E:X.set i (T.ren c.nm)=Y at *;have F:Y.length=X.length:=by rw[←E];simp
  have G:∀U∈Y,U.fs.length≤1000∧(∀x∈Zg (Zn U),x<h.length):=fun U d=>by
   constructor
   ·rw[←E]at d;rcases VL d with d|rfl
    ·exact u U d
    exact u T (Ve hi)
   intro x hx;have:=C.lo U d x (by
    simp only[Zn,Zg,locs,Vi,Vv,Ud,Vn,V3,UR]at hx;simp only[LT.pl,Vn,Vg];rcases hx with e|e|e|e
    ·exact .inl e
    ·exact .inr (.inl e)
    ·exact .inr (.inr (.inl e))
    exact .inr (.inr (.inr (.inl e))))
   rwa [W]at this
  have Z:(lt::Y.map (·.lf)).Nodup:=U7 ((ZiH Y).cons_cons lt) C.ap;obtain⟨g',p1,p2,p3,p4,p5⟩:=Zzz (kc:=kc) (lt:=lt) (N:=h.length) (c:=c) (X:=Y) F (by omega) Q v Y 0 (h.set lt B) 0 rfl (UB _) rfl W u1 (by rw[gt,←S,←E,V9];rfl)
   (fun U d=>⟨(C.ht U d).f,(G U d).1⟩) Z (fun U d=>(G U d).2)
  have s2:=C.re p3 p4;have a0:∀{l},l∈Y.map (·.lf)→l∈Y.flatMap LT.pl:=fun h=>(ZiH Y).subset h;have kY:kc∉Y.map (·.lf):=fun q=>by obtain⟨U,d,e⟩:=VE.1 q;exact(C.kn O).2 U d (by rw[←e];simp[LT.pl])
  have zY:2∉Y.map (·.lf):=fun q=>by
   obtain⟨U,d,e⟩:=VE.1 q;rw[←E]at d;rcases VL d with d|rfl
   ·exact h3 U d (by rw[←e];simp[LT.pl])
   exact h3 T (Ve hi) (by rw[←e];simp[LT.pl,LT.ren])
  have gk:g'[kc]?=some (.cells (kcC lt X.length i c)):=(p3 kc kY).trans O;have sw:=(s2.app [.cells (Zb c)]).toW;have uQ:Zi (g'++[Blk.cells (Zb c)]).length (Zk (g'++[Blk.cells (Zb c)]))=true:=by rw[ZR,ZV,Vu,p1];exact VX.2 ⟨Yf p2 (by omega),by simp[Zk,ZA,Wn,Zi]⟩
  rw[Vd,F]at sw;have ks:=Zje (kc:=kc) sw (gL gk _) uQ (by simp;omega);refine⟨(g'++[Blk.cells (Zb c)]).set lt (.rows 5 ((Ye (fun b=>b.nm) ((Y.map (LT.re c.tb c.nm)).map LT.toW)).map ZZ++[]) true),?_,?_⟩
  rotate_left 1
  ·have J:=sw.sorted;refine⟨?_,.own lt X.length,Zb c++[.optr lt X.length i 0],?_,?_,.inl ⟨lt,X.length,5,_,rfl,J.tb.at'⟩⟩
   ·rw[Vc h2.1,Vh (by omega),p3 2 zY,Vc h2.1]
   ·rw[Vc kl.symm];exact gL gk _
   have e3:(Ye (fun b:LW=>b.nm) ((Y.map (LT.re c.tb c.nm)).map LT.toW)).map LW.tbl=Ye (fun t=>t.nm) (((X.map LT.tbl).set i ⟨c.nm,T.tbl.cols,T.tbl.key,T.tbl.fgn,T.tbl.idx⟩).map (reT c.tb c.nm)):=by refine(Ju LW.tbl (fun t=>t.nm) ((Y.map (LT.re c.tb c.nm)).map LT.toW)).symm.trans ?_;rw[←ZnH,←E,V8];rfl
   rw[←e3];exact J.seen
  have a1:(X.map Zn).length=X.length:=by simp
  simp only[Zn]at g2;simp only[Zb,p]at p5 ks O;rw[Zal];simp only[go_sem,simprocAttr,f120,p,hk,gL hk,gL hs.tb,sL hs.tb,g2,S,w,sn,ca,M,W,gL O,Zb,ZB,Zf,Vd,gA0 r,sA0 r,VN,VW,Vo,Vl,Vi];rw[p5 _ _ ?_]
  rotate_left
  ·rfl
  simp only[go_sem,simprocAttr,ks]
  done
end
attribute [go_sem] ZN
theorem Xu{h:Za}(s:SchAt h lt X)(hi:X[i]?=some T):T.pl.Nodup:=by
 have key:∀{Y:List LT},(Y.flatMap LT.pl).Nodup→∀T∈Y,T.pl.Nodup:=fun{Y}=>by
  induction Y with
  |nil=>intro _ T h;simp at h
  |cons A Y f =>
   intro b T d;rw[US,VY]at b;rcases Vn.1 d with rfl|d
   ·exact b.1
   exact f b.2.1 T d
 exact key (Vx.1 s.ap).2 T (Ve hi)
section
variable{h:Za}{kc lt i:Nat}{X:List LT}{T:LT}{c:Chg}
theorem Zk2(hs:SchAt h lt X)(F:Shut h)(hk:h[kc]?=some (.cells (kcC lt X.length i c)))(hi:X[i]?=some T)(ht:FitT T.tbl)(J:c.kd=11)(a1:c.idx.cols.length≤1000000)(a5:T.is.length≤10)(h2:lt≠2∧kc≠2∧2<h.length)(h3:2∉T.pl):
  if 0≤ixN c.idx.nm (T.tbl.idx.map (·.nm)) 0 then R K (.call 123 [.ptr kc 0] h)=some (I 6,h++[.cells (Zb c)])
  else ∃H,R K (.call 123 [.ptr kc 0] h)=some (I 0,H)∧MadeH h H kc ((X.map LT.tbl).set i ⟨T.tbl.nm,T.tbl.cols,T.tbl.key,T.tbl.fgn,Ye (fun f=>f.nm) (T.tbl.idx++[c.idx])⟩):=by
 have a6:=(Vb.1 hk).1;have a2:=(Vb.1 hs.tb).1;have d:=Ve hi;have s:=hs.ht T d;have S:=(Vb.1 s.i).1;have O:h.length=h.length:=rfl;obtain⟨kl,kn⟩:=hs.kn hk;have nk:(kc==h.length)=false:=by rw[VR];omega
 have g2:(X.map Zn)[i]?=some (Zn T):=by rw[Vj,hi];rfl
 simp only[Zn]at g2;have cc:=ZhK T.tbl c.idx.nm ht.idx;have sn:=fun t=>XO (s.app t).seen [.str c.idx.nm] [.str c.idx.nm] rfl;simp only[Zn]at sn;have q:=fun t=>(s.app t).quiet 100 (ls:=[T.lc,T.lk,T.lf,T.li]) (by simp[LT.pl]);have M:lt≠T.li:=fun e=>hs.ne d (by rw[e];simp[LT.pl]);by_cases h0:0≤ixN c.idx.nm (T.tbl.idx.map (·.nm)) 0
 ·rw[Vr h0];rw[Zbp];simp only[go_sem,simprocAttr,f123,J,h0,gL hk,gL hs.tb,g2,sn,cc,gL s.c,gL s.k,gL s.f,gL s.i,Zb,ZB,Zf,Vd,gA0 O,sA0 O,Ub,nk,VN,VW,Vo,Vl,Vi]
  done
 rw[Vm h0];have cS:=Zar c.idx.cols a1;have rm:(T.is.length+1)*49≤Zp:=by unfold Zp;omega
 have eI:T.is.map ZJ++[[.str c.idx.nm,.rows (SLs c.idx.cols),.bool c.idx.uq]]=(T.is++[(⟨c.idx,none⟩:LI)]).map ZJ:=by simp[ZJ,Yc]
 generalize hA:T.is++[(⟨c.idx,none⟩:LI)]=A at *;have U:A.length=T.is.length+1:=by rw[←hA];simp
 have v:∀b∈A,∀p,b.l=some p→p∈T.is.filterMap (·.l)∧h[p]?=some (.rows 1 (SLs b.x.cols) true):=fun b u p e=>by
  rw[←hA]at u;rcases Vg.1 u with u|u
  ·exact⟨VG.2 ⟨b,u,e⟩,s.ic b u p e⟩
  rw[VH]at u;subst u;simp at e
 generalize hB:Blk.rows 3 (A.map ZJ) true=B at *;generalize hR:Blk.rows 5 ((X.map Zn).set i [.str T.nm,.own T.lc T.cols.length,.own T.lk T.key.length,.own T.lf T.fs.length,.own T.li (T.is.length+1)]) true=R5;have nd:=Xu hs hi;have w:=nd;simp only[LT.pl,Vx,Vn,Vg,So,VY]at w;have mp:∀p∈T.is.filterMap (·.l),p∈T.pl:=fun p hp=>by simp only[LT.pl,Vn,Vg];exact .inr (.inr (.inr (.inr (.inr hp))))
 have W:∀p∈T.is.filterMap (·.l),p≠T.li∧p≠lt:=fun p hp=>⟨fun e=>w.2.2.2.1.2 (e▸hp),fun e=>hs.ne d (e▸mp p hp)⟩;have lS:∀b:Blk,(h.set T.li b).length=h.length:=fun b=>Vq;have a3:((h.set T.li B).set lt R5).length=h.length:=by simp
 have gt:∀b:Blk,(h.set T.li b)[lt]?=some (.rows 5 (X.map Zn) true):=fun b=>by rw[Vc (fun e=>M e.symm)];exact hs.tb
 have gs:∀b:Blk,(h.set T.li b)[T.li]?=some b:=fun b=>Vf S;have a7:∀b:Blk,(h.set T.li b)[kc]?=some (.cells (kcC lt X.length i c)):=fun b=>by rw[Vc fun e=>kn T d (by rw[←e];simp[LT.pl])];exact hk
 have Y:((h.set T.li B).set lt R5)[lt]?=some R5:=Vf (by simpa using a2);have N:((h.set T.li B).set lt R5)[T.li]?=some B:=by rw[Vc M];exact gs B
 have Z:∀r,((X.map Zn).set i r)[i]?=some r:=fun r=>Vf (by simpa using(Vb.1 hi).1);have a0:∀l,l≠T.li→l≠lt→((h.set T.li B).set lt R5)[l]?=h[l]?:=fun l P e2=>by rw[Vc e2.symm,Vc P.symm]
 have uS:Zi h.length (Zk ((h.set T.li B).set lt R5))=true:=by
  refine ZM (ZM F.cl (Zt.2 fun x hx=>?_)) (Zt.2 fun x hx=>?_)
  ·rw[←hB]at hx;obtain⟨b,u,e⟩:=ZcU (show x∈Zz _ from hx);exact(Vb.1 (v b u x e).2).1
  rw[←hR]at hx;obtain⟨row,C,hx⟩:=Yy (show x∈Zz _ from hx);rcases VL C with C|rfl
  ·have:x∈ZA (.rows 5 (X.map Zn) true):=YH C x hx;exact Zt.1 F.cl x (Y5 hs.tb x this)
  refine hs.lo T d x ?_;simp only[Zg,locs,Vi,Vv,Ud,Vn,V3,UR]at hx;simp only[LT.pl,Vn,Vg];rcases hx with e|e|e|e
  ·exact .inl e
  ·exact .inr (.inl e)
  ·exact .inr (.inr (.inl e))
  exact .inr (.inr (.inr (.inl e)))
 have sW:∀t:Za,Zi (h.length+t.length) (Zk t)=true→R K (.call 79 [.own T.li (T.is.length+1),.fn 219 []] ((h.set T.li B).set lt R5++t))=some (.tup [],((h.set T.li B).set lt R5).set T.li (.rows 3 ((Ye (fun b=>b.x.nm) A).map ZJ) true)++t):=fun t a4=>by
  have:=ZwY (g:=(h.set T.li B).set lt R5++t) (a:=.own T.li (T.is.length+1)) (l:=T.li) (A:=A) (D:=[]) (.own (by rw[gL N,←hB]) (by simp[U])) rfl
   (fun b u p e=>⟨(W p (v b u p e).1).1,gL ((a0 p (W p (v b u p e).1).1 (W p (v b u p e).1).2).trans (v b u p e).2) t⟩)
   (by rw[ZR,ZV,Vu,a3];exact VX.2 ⟨Yf uS (by omega),a4⟩) (by omega)
  rw[sL N,Vv]at this;exact this
 have hE:MadeH h (((h.set T.li B).set lt R5).set T.li (.rows 3 ((Ye (fun b=>b.x.nm) A).map ZJ) true)++[.cells (Zb c),.cells [.str c.idx.nm,.rows (SLs c.idx.cols),.bool c.idx.uq],.hole]) kc ((X.map LT.tbl).set i ⟨T.tbl.nm,T.tbl.cols,T.tbl.key,T.tbl.fgn,Ye (fun f=>f.nm) (T.tbl.idx++[c.idx])⟩):=by
  generalize hG:((h.set T.li B).set lt R5).set T.li (.rows 3 ((Ye (fun b=>b.x.nm) A).map ZJ) true)=G;have Gl:G.length=h.length:=by rw[←hG];simp
  have Gi:G[T.li]?=some (.rows 3 ((Ye (fun b=>b.x.nm) A).map ZJ) true):=by rw[←hG,Vf (by simpa using S)]
  have Gt:G[lt]?=some R5:=by rw[←hG,Vc M.symm];exact Y
  have E:∀l,l≠T.li→l≠lt→G[l]?=h[l]?:=fun l P e2=>by rw[←hG,Vc P.symm];exact a0 l P e2
  have pA:=Yn (fun b:LI=>b.x.nm) A;have hx:HT G {T with is:=Ye (fun b=>b.x.nm) A}:=by
   refine⟨(E _ (fun e=>w.1.2.2.1 e) (fun e=>hs.ne d (by rw[←e];simp[LT.pl]))).trans s.c,(E _ (fun e=>w.2.1.2.1 e) (fun e=>hs.ne d (by rw[←e];simp[LT.pl]))).trans s.k,(E _ (fun e=>w.2.2.1.1 e) (fun e=>hs.ne d (by rw[←e];simp[LT.pl]))).trans s.f,Gi,fun a ha l e=>?_,fun a ha l e=>?_⟩
   ·have m:l∈T.fs.filterMap (·.l):=VG.2 ⟨a,ha,e⟩;have mm:l∈T.pl:=by simp only[LT.pl,Vn,Vg];exact .inr (.inr (.inr (.inr (.inl m))))
    exact(E l (fun e'=>w.2.2.2.1.1 (e'▸m)) (fun e'=>hs.ne d (e'▸mm))).trans (s.fc a ha l e)
   have h1:=v a (pA.mem_iff.1 ha) l e;exact(E l (W l h1.1).1 (W l h1.1).2).trans h1.2
  have e3:LT.tbl {T with is:=Ye (fun b=>b.x.nm) A}=⟨T.tbl.nm,T.tbl.cols,T.tbl.key,T.tbl.fgn,Ye (fun f=>f.nm) (T.tbl.idx++[c.idx])⟩:=by simp only[LT.tbl];rw[←Ju (fun b:LI=>b.x) (fun f=>f.nm),←hA,Ua];rfl
  have rl:Zn {T with is:=Ye (fun b=>b.x.nm) A}=[.str T.nm,.own T.lc T.cols.length,.own T.lk T.key.length,.own T.lf T.fs.length,.own T.li (T.is.length+1)]:=by simp only[Zn,Jx,U]
  refine⟨?_,.own lt X.length,Zb c++[.optr lt X.length i 0],?_,?_,.inl ⟨lt,X.length,5,_,rfl,gL (by rw[Gt,←hR]) _⟩⟩
  ·rw[Vh (by omega)];exact E 2 (fun e=>h3 (by rw[e];simp[LT.pl])) h2.1.symm
  ·refine gL ?_ _;rw[E kc (fun e=>kn T d (by rw[e];simp[LT.pl])) kl];exact hk
  rw[←e3];refine(hs.app [.cells (Zb c),.cells [.str c.idx.nm,.rows (SLs c.idx.cols),.bool c.idx.uq],.hole]).upd hi (row':=Zn {T with is:=Ye (fun b=>b.x.nm) A}) (by rw[gL Gt,rl,←hR]) (hx.app _).seen fun l P e2=>?_;by_cases hl:l<h.length
  ·rw[Vh (by omega),Vh (by omega)];exact E l (fun e=>e2 (by rw[e];simp[LT.pl])) P
  rw[Vy (by omega),Vy (by omega),Gl]
 refine⟨_,?_,hE⟩;have f0:h.length≤h.length+2:=by omega
 have f1:(h.length+2==lt)=false:=by rw[VR];omega
 have f2:(h.length+1==h.length)=false:=by rw[VR];omega
 have f3:(Zk (h++[Blk.cells (Zb c),.cells [.str c.idx.nm,.rows (SLs c.idx.cols),.bool c.idx.uq],.rows 1 (SLs c.idx.cols) true])).contains (h.length+2)=false:=by
  rw[Uk];intro Q;rw[UP,ZR]at Q;rcases Vg.1 Q with Q|Q
  ·have:=Zt.1 F.cl _ Q;omega
  simp[Zk,ZA,Zb,Zg,locs,Zv]at Q
 have sw:=sW [.cells (Zb c),.cells [.str c.idx.nm,.rows (SLs c.idx.cols),.bool c.idx.uq],.hole] (by simp[Zk,ZA,Wn,Zg,locs,Zi]);subst hB hR;simp only[Zb,J]at f3 sw;generalize ixN c.idx.nm (T.tbl.idx.map (·.nm)) 0=m at *;rw[Zbp];simp only[go_sem,simprocAttr,f123,eI,f0,f1,f2,f3,J,h0,cS,rm,gL hk,gL hs.tb,g2,sn,cc,gL s.c,gL s.k,gL s.f,gL s.i,sL s.i,gL (gs _),gL (gt _),sL (gt _),gL Y,gL N,Z,sw,Zb,ZB,Zf,Zv,Vd,gA0 O,gA O,sA0 O,sA O,Ub,nk,VN,VW,Vo,Vl,Vi]
theorem Zlb(hs:SchAt h lt X)(F:Shut h)(hk:h[kc]?=some (.cells (kcC lt X.length i c)))(hi:X[i]?=some T)(ht:FitT T.tbl)(J:c.kd=13)(a1:c.fgn.cols.length≤1000000)(a5:T.fs.length≤10)(h2:lt≠2∧kc≠2∧2<h.length)(h3:2∉T.pl):
  if 0≤ixN c.fgn.nm (T.tbl.fgn.map (·.nm)) 0 then R K (.call 123 [.ptr kc 0] h)=some (I 6,h++[.cells (Zb c)])
  else ∃H,R K (.call 123 [.ptr kc 0] h)=some (I 0,H)∧MadeH h H kc ((X.map LT.tbl).set i ⟨T.tbl.nm,T.tbl.cols,T.tbl.key,Ye (fun f=>f.nm) (T.tbl.fgn++[c.fgn]),T.tbl.idx⟩):=by
 have a6:=(Vb.1 hk).1;have a2:=(Vb.1 hs.tb).1;have d:=Ve hi;have s:=hs.ht T d;have S:=(Vb.1 s.f).1;have O:h.length=h.length:=rfl;obtain⟨kl,kn⟩:=hs.kn hk;have nk:(kc==h.length)=false:=by rw[VR];omega
 have g2:(X.map Zn)[i]?=some (Zn T):=by rw[Vj,hi];rfl
 simp only[Zn]at g2;have cc:=Zfz T.tbl c.fgn.nm ht.fgn;have sn:=fun t=>XO (s.app t).seen [.str c.fgn.nm] [.str c.fgn.nm] rfl;simp only[Zn]at sn;have q:=fun t=>(s.app t).quiet 100 (ls:=[T.lc,T.lk,T.lf,T.li]) (by simp[LT.pl]);have M:lt≠T.lf:=fun e=>hs.ne d (by rw[e];simp[LT.pl]);by_cases h0:0≤ixN c.fgn.nm (T.tbl.fgn.map (·.nm)) 0
 ·rw[Vr h0];rw[Zbp];simp only[go_sem,simprocAttr,f123,J,h0,gL hk,gL hs.tb,g2,sn,cc,gL s.c,gL s.k,gL s.f,gL s.i,Zb,ZB,Zf,Vd,gA0 O,sA0 O,Ub,nk,VN,VW,Vo,Vl,Vi]
  done
 rw[Vm h0];have cS:=Zar c.fgn.cols a1;have rm:(T.fs.length+1)*57≤Zp:=by unfold Zp;omega
 have eI:T.fs.map ZF++[[.str c.fgn.nm,.rows (SLs c.fgn.cols),.str c.fgn.tb]]=(T.fs++[(⟨c.fgn,none⟩:LF)]).map ZF:=by simp[ZF,Yc]
 generalize hA:T.fs++[(⟨c.fgn,none⟩:LF)]=A at *;have U:A.length=T.fs.length+1:=by rw[←hA];simp
 have v:∀b∈A,∀p,b.l=some p→p∈T.fs.filterMap (·.l)∧h[p]?=some (.rows 1 (SLs b.f.cols) true):=fun b u p e=>by
  rw[←hA]at u;rcases Vg.1 u with u|u
  ·exact⟨VG.2 ⟨b,u,e⟩,s.fc b u p e⟩
  rw[VH]at u;subst u;simp at e
 generalize hB:Blk.rows 3 (A.map ZF) true=B at *;generalize hR:Blk.rows 5 ((X.map Zn).set i [.str T.nm,.own T.lc T.cols.length,.own T.lk T.key.length,.own T.lf (T.fs.length+1),.own T.li T.is.length]) true=R5;have nd:=Xu hs hi;have w:=nd;simp only[LT.pl,Vx,Vn,Vg,So,VY]at w;have mp:∀p∈T.fs.filterMap (·.l),p∈T.pl:=fun p hp=>by simp only[LT.pl,Vn,Vg];exact .inr (.inr (.inr (.inr (.inl hp))))
 have W:∀p∈T.fs.filterMap (·.l),p≠T.lf∧p≠lt:=fun p hp=>⟨fun e=>w.2.2.1.2.1 (e▸hp),fun e=>hs.ne d (e▸mp p hp)⟩;have lS:∀b:Blk,(h.set T.lf b).length=h.length:=fun b=>Vq;have a3:((h.set T.lf B).set lt R5).length=h.length:=by simp
 have gt:∀b:Blk,(h.set T.lf b)[lt]?=some (.rows 5 (X.map Zn) true):=fun b=>by rw[Vc (fun e=>M e.symm)];exact hs.tb
 have gs:∀b:Blk,(h.set T.lf b)[T.lf]?=some b:=fun b=>Vf S;have a7:∀b:Blk,(h.set T.lf b)[kc]?=some (.cells (kcC lt X.length i c)):=fun b=>by rw[Vc fun e=>kn T d (by rw[←e];simp[LT.pl])];exact hk
 have Y:((h.set T.lf B).set lt R5)[lt]?=some R5:=Vf (by simpa using a2);have N:((h.set T.lf B).set lt R5)[T.lf]?=some B:=by rw[Vc M];exact gs B
 have Z:∀r,((X.map Zn).set i r)[i]?=some r:=fun r=>Vf (by simpa using(Vb.1 hi).1);have a0:∀l,l≠T.lf→l≠lt→((h.set T.lf B).set lt R5)[l]?=h[l]?:=fun l P e2=>by rw[Vc e2.symm,Vc P.symm]
 have uS:Zi h.length (Zk ((h.set T.lf B).set lt R5))=true:=by
  refine ZM (ZM F.cl (Zt.2 fun x hx=>?_)) (Zt.2 fun x hx=>?_)
  ·rw[←hB]at hx;obtain⟨b,u,e⟩:=Zaw (show x∈Zz _ from hx);exact(Vb.1 (v b u x e).2).1
  rw[←hR]at hx;obtain⟨row,C,hx⟩:=Yy (show x∈Zz _ from hx);rcases VL C with C|rfl
  ·have:x∈ZA (.rows 5 (X.map Zn) true):=YH C x hx;exact Zt.1 F.cl x (Y5 hs.tb x this)
  refine hs.lo T d x ?_;simp only[Zg,locs,Vi,Vv,Ud,Vn,V3,UR]at hx;simp only[LT.pl,Vn,Vg];rcases hx with e|e|e|e
  ·exact .inl e
  ·exact .inr (.inl e)
  ·exact .inr (.inr (.inl e))
  exact .inr (.inr (.inr (.inl e)))
 have sW:∀t:Za,Zi (h.length+t.length) (Zk t)=true→R K (.call 77 [.own T.lf (T.fs.length+1),.fn 223 []] ((h.set T.lf B).set lt R5++t))=some (.tup [],((h.set T.lf B).set lt R5).set T.lf (.rows 3 ((Ye (fun b=>b.f.nm) A).map ZF) true)++t):=fun t a4=>by
  have:=Ztl (g:=(h.set T.lf B).set lt R5++t) (a:=.own T.lf (T.fs.length+1)) (l:=T.lf) (A:=A) (D:=[]) (.own (by rw[gL N,←hB]) (by simp[U])) rfl
   (fun b u p e=>⟨(W p (v b u p e).1).1,gL ((a0 p (W p (v b u p e).1).1 (W p (v b u p e).1).2).trans (v b u p e).2) t⟩)
   (by rw[ZR,ZV,Vu,a3];exact VX.2 ⟨Yf uS (by omega),a4⟩) (by omega)
  rw[sL N,Vv]at this;exact this
 have hE:MadeH h (((h.set T.lf B).set lt R5).set T.lf (.rows 3 ((Ye (fun b=>b.f.nm) A).map ZF) true)++[.cells (Zb c),.cells [.str c.fgn.nm,.rows (SLs c.fgn.cols),.str c.fgn.tb],.hole]) kc ((X.map LT.tbl).set i ⟨T.tbl.nm,T.tbl.cols,T.tbl.key,Ye (fun f=>f.nm) (T.tbl.fgn++[c.fgn]),T.tbl.idx⟩):=by
  generalize hG:((h.set T.lf B).set lt R5).set T.lf (.rows 3 ((Ye (fun b=>b.f.nm) A).map ZF) true)=G;have Gl:G.length=h.length:=by rw[←hG];simp
  have Gi:G[T.lf]?=some (.rows 3 ((Ye (fun b=>b.f.nm) A).map ZF) true):=by rw[←hG,Vf (by simpa using S)]
  have Gt:G[lt]?=some R5:=by rw[←hG,Vc M.symm];exact Y
  have E:∀l,l≠T.lf→l≠lt→G[l]?=h[l]?:=fun l P e2=>by rw[←hG,Vc P.symm];exact a0 l P e2
  have pA:=Yn (fun b:LF=>b.f.nm) A;have hx:HT G {T with fs:=Ye (fun b=>b.f.nm) A}:=by
   refine⟨(E _ (fun e=>w.1.2.1 e) (fun e=>hs.ne d (by rw[←e];simp[LT.pl]))).trans s.c,(E _ (fun e=>w.2.1.1 e) (fun e=>hs.ne d (by rw[←e];simp[LT.pl]))).trans s.k,Gi,(E _ (fun e=>w.2.2.1.1 e.symm) (fun e=>hs.ne d (by rw[←e];simp[LT.pl]))).trans s.i,fun a ha l e=>?_,fun a ha l e=>?_⟩
   ·have h1:=v a (pA.mem_iff.1 ha) l e;exact(E l (W l h1.1).1 (W l h1.1).2).trans h1.2
   have m:l∈T.is.filterMap (·.l):=VG.2 ⟨a,ha,e⟩;have mm:l∈T.pl:=by simp only[LT.pl,Vn,Vg];exact .inr (.inr (.inr (.inr (.inr m))))
   exact(E l (fun e'=>w.2.2.1.2.2 (e'▸m)) (fun e'=>hs.ne d (e'▸mm))).trans (s.ic a ha l e)
  have e3:LT.tbl {T with fs:=Ye (fun b=>b.f.nm) A}=⟨T.tbl.nm,T.tbl.cols,T.tbl.key,Ye (fun f=>f.nm) (T.tbl.fgn++[c.fgn]),T.tbl.idx⟩:=by simp only[LT.tbl];rw[←Ju (fun b:LF=>b.f) (fun f=>f.nm),←hA,Ua];rfl
  have rl:Zn {T with fs:=Ye (fun b=>b.f.nm) A}=[.str T.nm,.own T.lc T.cols.length,.own T.lk T.key.length,.own T.lf (T.fs.length+1),.own T.li T.is.length]:=by simp only[Zn,Jx,U]
  refine⟨?_,.own lt X.length,Zb c++[.optr lt X.length i 0],?_,?_,.inl ⟨lt,X.length,5,_,rfl,gL (by rw[Gt,←hR]) _⟩⟩
  ·rw[Vh (by omega)];exact E 2 (fun e=>h3 (by rw[e];simp[LT.pl])) h2.1.symm
  ·refine gL ?_ _;rw[E kc (fun e=>kn T d (by rw[e];simp[LT.pl])) kl];exact hk
  rw[←e3];refine(hs.app [.cells (Zb c),.cells [.str c.fgn.nm,.rows (SLs c.fgn.cols),.str c.fgn.tb],.hole]).upd hi (row':=Zn {T with fs:=Ye (fun b=>b.f.nm) A}) (by rw[gL Gt,rl,←hR]) (hx.app _).seen fun l P e2=>?_;by_cases hl:l<h.length
  ·rw[Vh (by omega),Vh (by omega)];exact E l (fun e=>e2 (by rw[e];simp[LT.pl])) P
  rw[Vy (by omega),Vy (by omega),Gl]
 refine⟨_,?_,hE⟩;have f0:h.length≤h.length+2:=by omega
 have f1:(h.length+2==lt)=false:=by rw[VR];omega
 have f2:(h.length+1==h.length)=false:=by rw[VR];omega
 have f3:(Zk (h++[Blk.cells (Zb c),.cells [.str c.fgn.nm,.rows (SLs c.fgn.cols),.str c.fgn.tb],.rows 1 (SLs c.fgn.cols) true])).contains (h.length+2)=false:=by
  rw[Uk];intro Q;rw[UP,ZR]at Q;rcases Vg.1 Q with Q|Q
  ·have:=Zt.1 F.cl _ Q;omega
  simp[Zk,ZA,Zb,Zg,locs,Zv]at Q
 have sw:=sW [.cells (Zb c),.cells [.str c.fgn.nm,.rows (SLs c.fgn.cols),.str c.fgn.tb],.hole] (by simp[Zk,ZA,Wn,Zg,locs,Zi]);subst hB hR;simp only[Zb,J]at f3 sw;generalize ixN c.fgn.nm (T.tbl.fgn.map (·.nm)) 0=m at *;rw[Zbp];simp only[go_sem,simprocAttr,f123,eI,f0,f1,f2,f3,J,h0,cS,rm,gL hk,gL hs.tb,g2,sn,cc,gL s.c,gL s.k,gL s.f,gL s.i,sL s.f,gL (gs _),gL (gt _),sL (gt _),gL Y,gL N,Z,sw,Zb,ZB,Zf,Zv,Vd,gA0 O,gA O,sA0 O,sA O,Ub,nk,VN,VW,Vo,Vl,Vi]
end
attribute [go_sem] Zy Zs ZH Z1 ZL Yd Z0
def XZ(k:Int):List Bool :=
 if k=1 then[false,false,false,false,false,false,true,false]
 else if k=2 then[true,false,false,false,false,false,false,false]
 else if k=3∨k=5∨k=8∨k=12∨k=14 then[true,true,false,false,false,false,false,false]
 else if k=4 then[true,false,false,true,false,false,false,false]
 else if k=6 then[true,true,true,false,false,false,false,false]
 else if k=7∨k=9∨k=10 then[true,true,false,true,false,false,false,false]
 else if k=11 then[true,false,false,false,true,false,false,false]
 else if k=13 then[true,false,false,false,false,true,false,false]
 else if k=15 then[true,false,false,false,false,false,false,true]
 else[false,false,false,false,false,false,false,false]
theorem kinds{k:Int}(h:1≤k∧k≤15):k=1∨k=2∨k=3∨k=4∨k=5∨k=6∨k=7∨k=8∨k=9∨k=10∨k=11∨k=12∨k=13∨k=14∨k=15:=by omega
theorem Zla(k:Int)(h:¬(1≤k∧k≤15)):R K (.call 52 [I k] [])=some (.tup [.agg ((XZ k).map .bool),.bool false],[]):=by
 have e:∀j:Int,1≤j→j≤15→(k==j)=false:=fun j M h2=>by rw[VR];omega
 have r:=e 1 (by omega) (by omega);have s:=e 2 (by omega) (by omega);have v:=e 3 (by omega) (by omega);have w:=e 4 (by omega) (by omega);have C:=e 5 (by omega) (by omega);have E:=e 6 (by omega) (by omega);have F:=e 7 (by omega) (by omega);have G:=e 8 (by omega) (by omega);have J:=e 9 (by omega) (by omega);have b:=e 10 (by omega) (by omega);have d:=e 11 (by omega) (by omega);have f:=e 12 (by omega) (by omega);have l:=e 13 (by omega) (by omega);have p:=e 14 (by omega) (by omega);have q:=e 15 (by omega) (by omega);have u:XZ k=[false,false,false,false,false,false,false,false]:=by unfold XZ;simp only[VR,ne_eq]at r s v w C E F G J b d f l p q;simp[r,s,v,w,C,E,F,G,J,b,d,f,l,p,q]
 rw[u];rw[Zxr];simp only[go_sem,simprocAttr,f52,r,s,v,w,C,E,F,G,J,b,d,f,l,p,q]
 done
theorem Zbk(k:Int)(h:1≤k∧k≤15):R K (.call 52 [I k] [])=some (.tup [.agg ((XZ k).map .bool),.bool true],[]):=by rcases kinds h with rfl|rfl|rfl|rfl|rfl|rfl|rfl|rfl|rfl|rfl|rfl|rfl|rfl|rfl|rfl<;>exact Zgo (n:=300) (by kernel_rfl)
def Zcp(c:Col)(k d:Bool):Bool:=c.nm==[]&&((k||c.kd==0)&&(c.nl==false&&((d||c.df.k==0)&&((d||c.df.n==0)&&(d||c.df.s==[])))))
def Zss(c:Chg):Bool:=c.kd==4||Zcp c.col (c.kd==7) (c.kd==9||c.kd==10)
def ZgC(t:Tbl):Bool:=t.nm==[]&&(((t.cols.length:Int)+(t.key.length:Int)+(t.fgn.length:Int)+(t.idx.length:Int))==0)
def ZgW(c:Chg):Bool :=
 (c.tb==[]||c.kd != 1)&&(c.nm==[]||[3,5,6,7,8,9,10,12,14].contains c.kd)&&(c.nm2==[]||c.kd==6)&&Zss c &&
 (c.kd==11||(c.idx.nm==[]&&((c.idx.cols.length:Int)==0)&&!c.idx.uq))&&(c.kd==13||(c.fgn.nm==[]&&c.fgn.tb==[]&&((c.fgn.cols.length:Int)==0))) &&
 (c.kd==1||ZgC c.new)&&(((c.cls.length:Int)==0)||c.kd==15)
structure SmC(c:Chg):Prop where
 nc:c.new.cols.length≤1000
 nk:c.new.key.length≤1000
 nf:c.new.fgn.length≤15
 ni:c.new.idx.length≤15
theorem ZoI(t:Tbl)(f:t.cols.length≤1000)(h2:t.key.length≤1000)(h3:t.fgn.length≤15)(k:t.idx.length≤15):R K (.call 117 [.agg (Zc t)] [])=some (.bool (ZgC t),[]):=by
 have w1:Zx .i64 ((t.cols.length:Int)+(t.key.length:Int))=(t.cols.length:Int)+(t.key.length:Int):=Zq (by omega) (by omega);have w2:Zx .i64 ((t.cols.length:Int)+(t.key.length:Int)+(t.fgn.length:Int))=(t.cols.length:Int)+(t.key.length:Int)+(t.fgn.length:Int):=Zq (by omega) (by omega);have d:Zx .i64 ((t.cols.length:Int)+(t.key.length:Int)+(t.fgn.length:Int)+(t.idx.length:Int))=(t.cols.length:Int)+(t.key.length:Int)+(t.fgn.length:Int)+(t.idx.length:Int):=Zq (by omega) (by omega);rw[ZuX];simp only[go_sem,simprocAttr,f117,Zc,Vd,w1,w2,d]
 repeat' ((first|apply ZG|apply ZK|apply ZT)<;>intro b<;>simp only[b,go_sem,simprocAttr,Zc,Vd,w1,w2,d])
 ·simp[ZgC,b]
 simp[ZgC,b]
theorem ZCq(hk:1≤c.kd∧c.kd≤15):c.kd=1∨c.kd=2∨c.kd=3∨c.kd=4∨c.kd=5∨c.kd=6∨c.kd=7∨c.kd=8∨c.kd=9∨c.kd=10∨c.kd=11∨c.kd=12∨c.kd=13∨c.kd=14∨c.kd=15:=by omega
set_option maxHeartbeats 4000000 in
theorem Zlj(c:Chg)(hk:1≤c.kd∧c.kd≤15):R K (.call 116 [.agg (Zb c)] [])=some (.bool (Zss c),[]):=by
 rcases ZCq hk with h|h|h|h|h|h|h|h|h|h|h|h|h|h|h
 all_goals
  rw[Zu7];simp only[go_sem,simprocAttr,f116,Zb,h]
  all_goals simp[Zss,Zcp,h]
set_option maxHeartbeats 8000000 in
theorem Zfk(c:Chg)(hk:1≤c.kd∧c.kd≤15)(hs:SmC c):R K (.call 53 [.agg (Zb c),.agg ((XZ c.kd).map .bool)] [])=some (.bool (ZgW c),[]):=by
 have b:=ZoI c.new hs.nc hs.nk hs.nf hs.ni;have h2:=Zlj c hk;unfold ZgW;generalize ZgC c.new=z at *;generalize Zss c=y at *;rcases ZCq hk with h|h|h|h|h|h|h|h|h|h|h|h|h|h|h
 all_goals
  simp only[Zb,Zc,h]at b h2;rw[ZxA];simp -implicitDefEqProofs only[go_sem,simprocAttr,f53,Zb,h,b,h2,XZ,Vz,VO,V7,UA,false_or,UR,Ub,or_true,Yh,List.append_eq,Array.toList_append]
  repeat' ((first|apply ZG|apply ZK|apply ZT)<;>intro d<;>simp -implicitDefEqProofs only[d,go_sem,simprocAttr,Zb,h,b,h2,XZ,Vz,VO,V7,UA,false_or,UR,Ub,or_true,Yh,List.append_eq,Array.toList_append])
  all_goals simp_all
theorem Yo{e:Int}(k:a=.nils∨a=.rows []∨(∃l n,a=.own l n)∨∃l n m,a=.vw l n 0 m)(h:R K (.call 27 [ZX x,.agg (Zb c)] [])=some (.tup [.agg [a],I e],H)):
  R K (.call 8 [ZX x,.agg (Zb c)] [])=some (I e,[]):=by
 simp only[Zb]at h;rcases H with _|⟨b,H⟩
 ·rcases k with rfl|rfl|⟨l,n,rfl⟩|⟨l,n,m,rfl⟩
  ·rw[ZcJ];simp only[go_sem,simprocAttr,f8,Zb,h]
  ·rw[ZcJ];simp only[go_sem,simprocAttr,f8,Zb,h]
  ·rw[ZcJ];simp only[go_sem,simprocAttr,f8,Zb,h]
  rw[ZcJ];simp only[go_sem,simprocAttr,f8,Zb,h]
 have d:∀(p q r:Blk) (t:Za),(p::q::r::(H.map (YY (ZO [] 2))++t))[H.length+1+1+1]?=t[0]?:=fun p q r t=>by have:=gA0 (g:=p::q::r::H.map (YY (ZO [] 2))) (N:=H.length+1+1+1) (by simp) t;simpa using this
 have f:∀(p q r c:Blk) (t:Za),(p::q::r::(H.map (YY (ZO [] 2))++t)).set (H.length+1+1+1) c=p::q::r::(H.map (YY (ZO [] 2))++t.set 0 c):=fun p q r c t=>by have:=sA0 (g:=p::q::r::H.map (YY (ZO [] 2))) (N:=H.length+1+1+1) (by simp) c t;simp
 rcases k with rfl|rfl|⟨l,n,rfl⟩|⟨l,n,m,rfl⟩
 ·rw[ZcJ];simp only[go_sem,simprocAttr,f8,Zb,h,d,f,Vd,VC]
 ·rw[ZcJ];simp only[go_sem,simprocAttr,f8,Zb,h,d,f,Vd,VC]
 ·rw[ZcJ];simp only[go_sem,simprocAttr,f8,Zb,h,d,f,Vd,VC]
 rw[ZcJ];simp only[go_sem,simprocAttr,f8,Zb,h,d,f,Vd,VC]
theorem ZrG(x:List Tbl)(c:Chg)(hx:FitX x)(h0:X8 x≠0):R K (.call 27 [ZX x,.agg (Zb c)] [])=some (.tup [.agg [.nils],I (X8 x)],[.cells [.rows (x.map Zc)],.cells (Zb c),.cells [.nils]]):=by
 have b:=YZ x hx;generalize X8 x=e at *;have d:(e==0)=false:=by simpa using h0
 rw[Wx];simp only[go_sem,simprocAttr,f27,Zb,b,d,bne]
theorem Zx1(x:List Tbl)(c:Chg)(hx:FitX x)(h0:X8 x=0)(hk:¬(1≤c.kd∧c.kd≤15)):R K (.call 27 [ZX x,.agg (Zb c)] [])=some (.tup [.agg [.nils],I 4],[.cells [.rows (x.map Zc)],.cells (Zb c),.cells [.nils],.cells ((XZ c.kd).map .bool)]):=by
 have s:=YZ x hx;have h2:=Zla c.kd hk;have u:(XZ c.kd).length=8:=by
  unfold XZ
  repeat' split
  all_goals rfl
 obtain⟨b,d,f,k,l,p,q,r,e⟩:∃b d f k l p q r,XZ c.kd=[b,d,f,k,l,p,q,r]:=by
  match h:XZ c.kd,u with
  |[b,d,f,k,l,p,q,r],_=>exact⟨b,d,f,k,l,p,q,r,rfl⟩
 rw[h0]at s;rw[e]at h2 ⊢;simp only[Vz,VO]at h2 ⊢;rw[Wx];simp only[go_sem,simprocAttr,f27,Zb,s,h2,bne]
theorem Zzn(x:List Tbl)(c:Chg)(hx:FitX x)(h0:X8 x=0)(hk:1≤c.kd∧c.kd≤15)(hf:R K (.call 53 [.agg (Zb c),.agg ((XZ c.kd).map .bool)] [])=some (.bool false,[])):R K (.call 27 [ZX x,.agg (Zb c)] [])=some (.tup [.agg [.nils],I 3],[.cells [.rows (x.map Zc)],.cells (Zb c),.cells [.nils],.cells ((XZ c.kd).map .bool)]):=by
 have s:=YZ x hx;have h2:=Zbk c.kd hk;have u:(XZ c.kd).length=8:=by
  unfold XZ
  repeat' split
  all_goals rfl
 obtain⟨b,d,f,k,l,p,q,r,e⟩:∃b d f k l p q r,XZ c.kd=[b,d,f,k,l,p,q,r]:=by
  match h:XZ c.kd,u with
  |[b,d,f,k,l,p,q,r],_=>exact⟨b,d,f,k,l,p,q,r,rfl⟩
 rw[h0]at s;rw[e]at h2 hf ⊢;simp only[Vz,VO]at h2 hf ⊢;simp only[Zb]at hf;rw[Wx];simp only[go_sem,simprocAttr,f27,Zb,s,h2,hf,bne]
attribute [-go_sem] Zy Zs ZH Z1 ZL Yd Z0
abbrev cgH(x:List Tbl)(c:Chg)(last:AV):Za:=.cells [.rows (x.map Zc)]::.cells (Zb c)::.cells [.nils]::.cells ((XZ c.kd).map .bool)::.cells (.own 7 x.length::(Zb c++[last]))::.cells [.rows (x.map Zc)]::.cells [.own 7 x.length]::.rows 5 ((XC 8 x).map Zn) true::Wv 8 x
theorem ZkM(k:Int):∃b d f l p q r s,XZ k=[b,d,f,l,p,q,r,s]:=by
 have u:(XZ k).length=8:=by
  unfold XZ
  repeat' split
  all_goals rfl
 match h:XZ k,u with
 |[b,d,f,l,p,q,r,s],_=>exact⟨b,d,f,l,p,q,r,s,rfl⟩
structure Done(H:Za)(y:List Tbl):Prop where
 z:H[2]?=some (.cells [.nils])
 k:∃a rest,H[4]?=some (.cells (a::rest))∧SeenX H a y∧((∃l n z rs,a=.own l n∧H[l]?=some (.rows z rs true))∨∃l n m,a=.vw l n 0 m)
section
variable{x:List Tbl}{c:Chg}(hx:FitX x)(hs:∀t∈x,SmT t)(hl:x.length≤1000)(h0:X8 x=0)(hk:1≤c.kd∧c.kd≤15)(hf:R K (.call 53 [.agg (Zb c),.agg ((XZ c.kd).map .bool)] [])=some (.bool true,[]))
include hx hs hl h0 hk hf
theorem Zy5(f:c.kd≠1)(ht:ixN c.tb (x.map (·.nm)) 0<0):R K (.call 8 [ZX x,.agg (Zb c)] [])=some (I 5,[]):=by
 have d:=YZ x hx;have h2:=Zbk c.kd hk;have h3:=WT x hl hs;have k:=ZaE x c.tb hx.len;have b:(c.kd==1)=false:=by simpa using f
 obtain⟨l,p,q,r,s,u,v,w,e⟩:=ZkM c.kd;rw[h0]at d;rw[e]at h2 hf;simp only[Vz,VO]at h2 hf;simp only[Zb]at hf;generalize ixN c.tb (x.map (·.nm)) 0=m at *;have key:∃H,R K (.call 27 [ZX x,.agg (Zb c)] [])=some (.tup [.agg [.nils],I 5],H):=by refine⟨cgH x c .nilp,?_⟩;simp only[cgH,e,Vz,VO,Zb,Vl,Vi];rw[Wx];simp only[go_sem,simprocAttr,f27,d,h2,h3,k,hf,bne,b,ht,Xb,Xd,VC,VI]
 obtain⟨H,key⟩:=key;exact Yo (.inl rfl) key
theorem ZBf{i:Nat}{e':Int}(r:c.kd≠1)(ht:ixN c.tb (x.map (·.nm)) 0=(i:Int))(hi:i<x.length)(s:e'≠0)
  (f:R K (.call 56 [.ptr 4 0] (cgH x c (.optr 7 x.length i 0)))=some (I e',H')) (k:H'[2]?=some (.cells [.nils])):R K (.call 8 [ZX x,.agg (Zb c)] [])=some (I e',[]):=by
 have p:=YZ x hx;have h2:=Zbk c.kd hk;have h3:=WT x hl hs;have q:=ZaE x c.tb hx.len;have b:(c.kd==1)=false:=by simpa using r
 have u:(e'==0)=false:=by simpa using s
 obtain⟨T,v⟩:=Zu (l:=XC 8 x) (i:=i) (by rw[XR];exact hi);have w:at? ((XC 8 x).map Zn) (i:Int)=some (Zn T):=ZW (by rw[Vj,v];rfl);have d:¬(i:Int)<0:=by omega
 obtain⟨E,F,G,J,M,N,O,P,e⟩:=ZkM c.kd;rw[h0]at p;rw[ht]at q;rw[e]at h2 hf;simp only[cgH,e,Vz,VO,Zb,Vl,Vi]at f;simp only[Vz,VO]at h2 hf;simp only[Zb]at hf;have key:∃H,R K (.call 27 [ZX x,.agg (Zb c)] [])=some (.tup [.agg [.nils],I e'],H):=by refine⟨H'.set 2 (.cells [.nils]),?_⟩;have C:(H'.set 2 (.cells [.nils]))[2]?=some (.cells [.nils]):=Vf (Vb.1 k).1;rw[Wx];simp only[go_sem,simprocAttr,f27,Zb,p,h2,h3,q,hf,bne,b,d,w,XR,f,u,k,C,Xb,Xd,VC,VI,Vk]
 obtain⟨H,key⟩:=key;exact Yo (.inl rfl) key
theorem ZDh{i:Nat}(P:c.kd≠1)(ht:ixN c.tb (x.map (·.nm)) 0=(i:Int))(hi:i<x.length)(Q:FitX y)
  (f:R K (.call 56 [.ptr 4 0] (cgH x c (.optr 7 x.length i 0)))=some (I 0,H')) (M:Done H' y):R K (.call 8 [ZX x,.agg (Zb c)] [])=some (I (X8 y),[]):=by
 have p:=YZ x hx;have h2:=Zbk c.kd hk;have h3:=WT x hl hs;have r:=ZaE x c.tb hx.len;have b:(c.kd==1)=false:=by simpa using P
 obtain⟨T,S⟩:=Zu (l:=XC 8 x) (i:=i) (by rw[XR];exact hi);have u:at? ((XC 8 x).map Zn) (i:Int)=some (Zn T):=ZW (by rw[Vj,S];rfl);have d:¬(i:Int)<0:=by omega
 have s:=M.z;obtain⟨a,rest,v,U,F⟩:=M.k;have w:=ZeN U [] [] rfl;have C:=YZ y Q;obtain⟨W,Y,Z,b3,b4,b5,b6,b7,e⟩:=ZkM c.kd;rw[h0]at p;rw[ht]at r;rw[e]at h2 hf;simp only[cgH,e,Vz,VO,Zb,Vl,Vi]at f;simp only[Vz,VO]at h2 hf;simp only[Zb]at hf;generalize X8 y=G at *;have E:∀z,(H'.set 2 (.cells [z]))[2]?=some (.cells [z]):=fun z=>Vf (Vb.1 s).1;by_cases N:G=0
 ·subst N;have key:∃a H,(a=.nils∨a=.rows []∨(∃l n,a=.own l n)∨∃l n m,a=.vw l n 0 m)∧R K (.call 27 [ZX x,.agg (Zb c)] [])=some (.tup [.agg [a],I 0],H):=by
   refine⟨a,H'.set 2 (.cells [a]),?_,?_⟩
   ·rcases F with⟨l,n,_,_,e,_⟩|e
    ·exact .inr (.inr (.inl ⟨l,n,e⟩))
    exact .inr (.inr (.inr e))
   rcases F with⟨l,n,z,rs,rfl,J⟩|⟨l,n,m,rfl⟩
   ·rw[Wx];simp only[go_sem,simprocAttr,f27,Zb,p,h2,h3,r,hf,bne,b,d,u,XR,f,s,E,v,J,w,C,Xb,Xd,VC,VI,Vk]
   rw[Wx];simp only[go_sem,simprocAttr,f27,Zb,p,h2,h3,r,hf,bne,b,d,u,XR,f,s,E,v,w,C,Xb,Xd,VC,VI,Vk]
  obtain⟨a',H,q,key⟩:=key;exact Yo q key
 have O:(G==0)=false:=by simpa using N
 have key:∃H,R K (.call 27 [ZX x,.agg (Zb c)] [])=some (.tup [.agg [.nils],I G],H):=by
  refine⟨H'.set 2 (.cells [.nils]),?_⟩;rcases F with⟨l,n,z,rs,rfl,J⟩|⟨l,n,m,rfl⟩
  ·rw[Wx];simp only[go_sem,simprocAttr,f27,Zb,p,h2,h3,r,hf,bne,b,d,u,XR,f,s,E,v,J,w,C,O,Xb,Xd,VC,VI,Vk]
  rw[Wx];simp only[go_sem,simprocAttr,f27,Zb,p,h2,h3,r,hf,bne,b,d,u,XR,f,s,E,v,w,C,O,Xb,Xd,VC,VI,Vk]
 obtain⟨H,key⟩:=key;exact Yo (.inl rfl) key
end
attribute [go_sem] Zy Zs ZH Z1 ZL Yd Z0
section
variable{h A tail:Za}{kc lt i:Nat}{X:List LT}{T:LT}{c:Chg}
theorem SchAt.made{t':Tbl}(hs:SchAt h lt X)(hi:X[i]?=some T)(hk:h[kc]?=some (.cells (kcC lt X.length i c)))(h2:lt≠2∧kc≠2∧2<h.length)(h3:2∉T.pl)
  (k:H=A++tail) (p:A.length=h.length) (f:H[lt]?=some (.rows 5 ((X.map Zn).set i row) true)) (ht:SeenT H row t') (fr:∀l,l≠lt→l∉T.pl→A[l]?=h[l]?):MadeH h H kc ((X.map LT.tbl).set i t'):=by
 subst k;obtain⟨q,r⟩:=hs.kn hk;have b:=(Vb.1 hk).1;have d:∀l,l<h.length→(A++tail)[l]?=A[l]?:=fun l hl=>Vh (by omega);refine⟨by rw[d 2 h2.2.2];exact fr 2 (fun e=>h2.1 e.symm) h3,_,_,by rw[d kc b,fr kc q (r T (Ve hi))];exact hk,?_,.inl ⟨lt,X.length,5,_,rfl,f⟩⟩;refine(hs.app tail).upd hi f ht fun l s u=>?_;by_cases hl:l<h.length
 ·rw[d l hl,fr l s u,Vh hl]
 rw[Vy (by omega),Vy (by omega),p]
theorem SchAt.madeC{cols:List Col}(hs:SchAt h lt X)(hi:X[i]?=some T)(hk:h[kc]?=some (.cells (kcC lt X.length i c)))(h2:lt≠2∧kc≠2∧2<h.length)(h3:2∉T.pl)
  (k:H=A++tail) (p:A.length=h.length) (q:H[lt]?=some (.rows 5 ((X.map Zn).set i [.str T.nm,a,.own T.lk T.key.length,.own T.lf T.fs.length,.own T.li T.is.length]) true)) (r:Lst H a (cols.map Zh)) (fr:∀l,l≠lt→l≠T.lc→A[l]?=h[l]?):MadeH h H kc ((X.map LT.tbl).set i {T.tbl with cols:=cols}):=by
 have b:=Ve hi;refine hs.made hi hk h2 h3 k p q ?_ fun l f d=>fr l f fun e=>d (by rw[e];simp[LT.pl]);subst k;refine((hs.ht T b).app tail).cols' r (fun l f d=>?_) (Xu hs hi);have hl:l<h.length:=hs.lo T b l d;rw[Vh (by omega),Vh hl];exact fr l (fun e=>hs.ne b (e▸d)) f
theorem HT.idx'{h h':Za}{t:LT}(s:HT h t){F:List LI}(q:Lst h' a (F.map ZJ))(r:F.Sublist t.is)(fr:∀l,l≠t.li→l∈t.pl→h'[l]?=h[l]?)(u:t.pl.Nodup):
  SeenT h' [.str t.nm,.own t.lc t.cols.length,.own t.lk t.key.length,.own t.lf t.fs.length,a] ⟨t.nm,t.cols,t.key,t.tbl.fgn,F.map (·.x)⟩:=by
 have d:=u;simp only[LT.pl,Vx,Vn,Vg,So,VY]at d;have mf:∀a∈t.fs,∀l,a.l=some l→l≠t.li∧l∈t.pl:=fun a q l e=>by have m:l∈t.fs.filterMap (·.l):=VG.2 ⟨a,q,e⟩;refine⟨fun e'=>d.2.2.2.1.1 (e'▸m),?_⟩;simp only[LT.pl,Vn,Vg];exact .inr (.inr (.inr (.inr (.inl m))))
 have mi:∀a∈t.is,∀l,a.l=some l→l≠t.li∧l∈t.pl:=fun a q l e=>by have m:l∈t.is.filterMap (·.l):=VG.2 ⟨a,q,e⟩;refine⟨fun e'=>d.2.2.2.1.2 (e'▸m),?_⟩;simp only[LT.pl,Vn,Vg];exact .inr (.inr (.inr (.inr (.inr m))))
 refine⟨.own t.lc t.cols.length,.own t.lk t.key.length,.own t.lf t.fs.length,a,t.fs.map ZF,F.map ZJ,rfl,.own t.lc 6 _ _ true ((fr t.lc (fun e=>d.1.2.2.1 e) (by simp[LT.pl])).trans s.c) (by simp),.own t.lk 1 _ _ true ((fr t.lk (fun e=>d.2.1.2.1 e) (by simp[LT.pl])).trans s.k) (Yh _),⟨.own t.lf 3 _ _ true ((fr t.lf (fun e=>d.2.2.1.1 e) (by simp[LT.pl])).trans s.f) (by simp),?_⟩,q,?_⟩
 ·exact Both.map fun b p=>⟨_,rfl,YG fun l e=>(fr l (mf b p l e).1 (mf b p l e).2).trans (s.fc b p l e)⟩
 exact Both.map fun b p=>⟨_,rfl,YG fun l e=>(fr l (mi b (r.subset p) l e).1 (mi b (r.subset p) l e).2).trans (s.ic b (r.subset p) l e)⟩
theorem HT.fgn'{h h':Za}{t:LT}(s:HT h t){F:List LF}(q:Lst h' a (F.map ZF))(r:F.Sublist t.fs)(fr:∀l,l≠t.lf→l∈t.pl→h'[l]?=h[l]?)(u:t.pl.Nodup):
  SeenT h' [.str t.nm,.own t.lc t.cols.length,.own t.lk t.key.length,a,.own t.li t.is.length] ⟨t.nm,t.cols,t.key,F.map (·.f),t.tbl.idx⟩:=by
 have d:=u;simp only[LT.pl,Vx,Vn,Vg,So,VY]at d;have mf:∀a∈t.fs,∀l,a.l=some l→l≠t.lf∧l∈t.pl:=fun a q l e=>by have m:l∈t.fs.filterMap (·.l):=VG.2 ⟨a,q,e⟩;refine⟨fun e'=>d.2.2.1.2.1 (e'▸m),?_⟩;simp only[LT.pl,Vn,Vg];exact .inr (.inr (.inr (.inr (.inl m))))
 have mi:∀a∈t.is,∀l,a.l=some l→l≠t.lf∧l∈t.pl:=fun a q l e=>by have m:l∈t.is.filterMap (·.l):=VG.2 ⟨a,q,e⟩;refine⟨fun e'=>d.2.2.1.2.2 (e'▸m),?_⟩;simp only[LT.pl,Vn,Vg];exact .inr (.inr (.inr (.inr (.inr m))))
 refine⟨.own t.lc t.cols.length,.own t.lk t.key.length,a,.own t.li t.is.length,F.map ZF,t.is.map ZJ,rfl,.own t.lc 6 _ _ true ((fr t.lc (fun e=>d.1.2.1 e) (by simp[LT.pl])).trans s.c) (by simp),.own t.lk 1 _ _ true ((fr t.lk (fun e=>d.2.1.1 e) (by simp[LT.pl])).trans s.k) (Yh _),⟨q,?_⟩,.own t.li 3 _ _ true ((fr t.li (fun e=>d.2.2.1.1 e.symm) (by simp[LT.pl])).trans s.i) (by simp),?_⟩
 ·exact Both.map fun b p=>⟨_,rfl,YG fun l e=>(fr l (mf b (r.subset p) l e).1 (mf b (r.subset p) l e).2).trans (s.fc b (r.subset p) l e)⟩
 exact Both.map fun b p=>⟨_,rfl,YG fun l e=>(fr l (mi b p l e).1 (mi b p l e).2).trans (s.ic b p l e)⟩
end
section
variable(x:List Tbl)(c:Chg)(last:AV)
theorem Jw:SchAt (cgH x c last) 7 (XC 8 x):=by have:=Zrs (lt:=7) (n:=8) (x:=x) (post:=[]) (pre:=[.cells [.rows (x.map Zc)],.cells (Zb c),.cells [.nils],.cells ((XZ c.kd).map .bool),.cells (.own 7 x.length::(Zb c++[last])),.cells [.rows (x.map Zc)],.cells [.own 7 x.length],.rows 5 ((XC 8 x).map Zn) true]) rfl (by omega) rfl;rw[Vv]at this;exact this
theorem ZzS:∀T∈XC 8 x,∀l∈T.pl,9≤l:=fun T b l hl=>by have:=((ZfO x 8).2 l (V1.2 ⟨T,b,hl⟩)).1;omega
theorem ZwE(p:Nat)(l:List Fgn):∀a∈Qc p l l.length,∃q,a.l=some q:=fun a b=>by unfold Qc at b;obtain⟨⟨f,k⟩,hf,rfl⟩:=VE.1 b;have:=(List.mem_zipIdx hf).2.1;simp only[VZ]at this;simp[this]
theorem ZwD(p:Nat)(l:List Idx):∀a∈Qm p l l.length,∃q,a.l=some q:=fun a b=>by unfold Qm at b;obtain⟨⟨f,k⟩,hf,rfl⟩:=VE.1 b;have:=(List.mem_zipIdx hf).2.1;simp only[VZ]at this;simp[this]
theorem ZmX(n:Nat)(t:Tbl):(WB n t).own:=⟨ZwE _ _,ZwD _ _⟩
theorem Zib:∀(x:List Tbl) (n:Nat),∀T∈XC n x,T.own
 |[],_,T,h=>by simp[XC]at h
 |t::x,n,T,h=>by
  rcases Vn.1 h with rfl|h
  ·exact ZmX _ _
  exact Zib x _ T h
theorem ZxF(n:Nat)(t:Tbl)(r:List Tbl):∀T∈cqX n t r,T.own:=fun T h=>by
 rcases Vn.1 h with rfl|h
 ·exact ZmX _ _
 exact Zib _ _ T h
end
theorem WS(x:List Tbl)(c:Chg){last:AV}(hl:last=.nilp∨∃i,last=.optr 7 x.length i 0):Shut (cgH x c last):=by
 obtain⟨q,r⟩:=ZfE x 8;have s:∀l∈locs last,l=7:=fun l h=>by
  rcases hl with rfl|⟨i,rfl⟩
  ·simp[locs]at h
  simpa[locs]using h
 have u:∀l∈Zg (Zb c++[last]),l=7:=fun l h=>by
  rcases(WW _ _ l).1 h with h|h
  ·rw[Wn]at h;simp at h
  exact s l (by simpa[Zg]using h)
 have v:eqL (Zb c++[last]) (Zb c++[last])=true:=Zqx (ZqA c) (by
  rcases hl with rfl|⟨i,rfl⟩
  ·simp[eqL,eqA]
  simp[eqL,eqA])
 obtain⟨w,C,E,F,G,J,M,N,k⟩:=ZkM c.kd;have p:eqR (x.map Zc) (x.map Zc)=true:=Jk (fun a=>by simp[Zc,eqL,eqA,Zak,XU,Zjj,ZhY]) _;refine Shut.mk' (fun l d=>?_) (fun b f=>?_)
 ·have d:l=7∨l∈Zz ((XC 8 x).map Zn)∨l∈Zk (Wv 8 x):=by
   simp only[Zk,ZA,Zg,locs,k,Vz,VO,Vv,Vi,Vg,Vn,V3,UR,Wn]at d;rcases d with(h|h)|h|h|h
   ·exact .inl h
   ·exact .inl (u l h)
   ·exact .inl h
   ·exact .inr (.inl h)
   exact .inr (.inr h)
  simp only[VC];rcases d with h|h|h
  ·omega
  ·have:=Znx x 8 l h;omega
  have:=q l h;omega
 simp only[Vn]at f;rcases f with rfl|rfl|rfl|rfl|rfl|rfl|rfl|rfl|f
 ·simp[eqB,eqL,eqA,p]
 ·exact ZbO c
 ·simp[eqB,eqL,eqA]
 ·rw[k];simp[eqB,eqL,eqA]
 ·simp only[eqB,eqL,eqA,v,Sw,U6]
 ·simp[eqB,eqL,eqA,p]
 ·simp[eqB,eqL,eqA]
 ·simp only[eqB,Sw,ZmS,U6]
 exact r b f
attribute [-go_sem] Zy Zs ZH Z1 ZL Yd Z0
section
variable{h H:Za}{kc lt n:Nat}{c:Chg}{last:AV}{e:Int}(hk:h[kc]?=some (.cells (.own lt n::(Zb c++[last]))))
include hk
theorem QX(b:c.kd=1∨c.kd=2∨c.kd=3)(d:R K (.call 120 [.ptr kc 0] h)=some (I e,H)):R K (.call 56 [.ptr kc 0] h)=some (I e,H):=by
 have f:h.length=h.length:=rfl;rcases b with b|b|b
 ·simp only[Zb,b,Vl,Vi]at hk;rw[Wg];simp only[go_sem,simprocAttr,f56,hk,d]
 ·simp only[Zb,b,Vl,Vi]at hk;rw[Wg];simp only[go_sem,simprocAttr,f56,hk,d]
 simp only[Zb,b,Vl,Vi]at hk;rw[Wg];simp only[go_sem,simprocAttr,f56,hk,d]
theorem XD(b:c.kd=4∨c.kd=5∨c.kd=6∨c.kd=15)(d:R K (.call 121 [.ptr kc 0] h)=some (I e,H)):R K (.call 56 [.ptr kc 0] h)=some (I e,H):=by
 rcases b with b|b|b|b
 ·simp only[Zb,b,Vl,Vi]at hk;rw[Wg];simp only[go_sem,simprocAttr,f56,hk,d]
 ·simp only[Zb,b,Vl,Vi]at hk;rw[Wg];simp only[go_sem,simprocAttr,f56,hk,d]
 ·simp only[Zb,b,Vl,Vi]at hk;rw[Wg];simp only[go_sem,simprocAttr,f56,hk,d]
 simp only[Zb,b,Vl,Vi]at hk;rw[Wg];simp only[go_sem,simprocAttr,f56,hk,d]
theorem Zcr(b:c.kd=7∨c.kd=8∨c.kd=9∨c.kd=10)(d:R K (.call 122 [.ptr kc 0] h)=some (I e,H)):R K (.call 56 [.ptr kc 0] h)=some (I e,H):=by
 rcases b with b|b|b|b
 ·simp only[Zb,b,Vl,Vi]at hk;rw[Wg];simp only[go_sem,simprocAttr,f56,hk,d]
 ·simp only[Zb,b,Vl,Vi]at hk;rw[Wg];simp only[go_sem,simprocAttr,f56,hk,d]
 ·simp only[Zb,b,Vl,Vi]at hk;rw[Wg];simp only[go_sem,simprocAttr,f56,hk,d]
 simp only[Zb,b,Vl,Vi]at hk;rw[Wg];simp only[go_sem,simprocAttr,f56,hk,d]
theorem JF(b:c.kd=11∨c.kd=12∨c.kd=13∨c.kd=14)(d:R K (.call 123 [.ptr kc 0] h)=some (I e,H)):R K (.call 56 [.ptr kc 0] h)=some (I e,H):=by
 rcases b with b|b|b|b
 ·simp only[Zb,b,Vl,Vi]at hk;rw[Wg];simp only[go_sem,simprocAttr,f56,hk,d]
 ·simp only[Zb,b,Vl,Vi]at hk;rw[Wg];simp only[go_sem,simprocAttr,f56,hk,d]
 ·simp only[Zb,b,Vl,Vi]at hk;rw[Wg];simp only[go_sem,simprocAttr,f56,hk,d]
 simp only[Zb,b,Vl,Vi]at hk;rw[Wg];simp only[go_sem,simprocAttr,f56,hk,d]
end
attribute [go_sem] Zy Zs ZH Z1 ZL Yd Z0
def sqR:Nat→Code→Code
 |0,c=>c
 |n+1,.seq _ b=>sqR n b
 |_,c=>c
def sqA(n:Nat)(c:Code):Code:=match sqR n c with
 |.seq a _=>a
 |c=>c
structure NewT(t:Tbl):Prop where
 nm:t.nm.length≤100
 cols:t.cols.length≤6
 col:∀c∈t.cols,c.nm.length≤100
 key:t.key.length≤2
 fgn:t.fgn=[]
 idx:t.idx.length≤2
 ix:∀f∈t.idx,f.nm.length≤100∧f.cols.length≤2
 rise:Rising (fun f:Idx=>f.nm) t.idx
structure SmG(c:Chg):Prop where
 tb:c.tb.length≤100
 nm:c.nm.length≤100
 nm2:c.nm2.length≤100
 cn:c.col.nm.length≤100
 xn:c.idx.nm.length≤100
 xc:c.idx.cols.length≤1
 fn:c.fgn.nm.length≤100
 fc:c.fgn.cols.length≤1
 cls:c.cls.length≤7
 new:NewT c.new
theorem Je{l:List (List UInt8)}{i:Int}(h:0≤i∧i<(l.length:Int)):∃s∈l,at? (SLs l) i=some [.str s]:=by
 obtain⟨s,hs⟩:=Zu (l:=l) (i:=i.toNat) (by omega);refine⟨s,Ve hs,?_⟩;have e:i=(i.toNat:Int):=by omega
 rw[e];exact ZW (by rw[Vj,hs];rfl)
def zT:Tbl:=⟨[],[],[],[],[]⟩
theorem QL:NewT zT:=⟨by simp[zT],by simp[zT],by simp[zT],by simp[zT],rfl,by simp[zT],by simp[zT],List.Pairwise.nil⟩
def zC:List AV:=[I 0,.str [],.str [],.str [],.str [],I 0,.bool false,I 0,I 0,.str [],.str [],.nils,.bool false,.str [],.nils,.str [],.str [],.nils,.nils,.nils,.nils,.nils]
def Zfv(c:Chg)(ic fc cl:AV):List AV:=[I c.kd,.str c.tb,.str c.nm,.str c.nm2,.str c.col.nm,I c.col.kd,.bool c.col.nl,I c.col.df.k,I c.col.df.n,.str c.col.df.s,.str c.idx.nm,ic,.bool c.idx.uq,.str c.fgn.nm,fc,.str c.fgn.tb,.str [],.nils,.nils,.nils,.nils,cl]
inductive TH(c:Chg):AV→AV→AV→Za→Prop
 |a (e1:c.idx.cols=[]) (e2:c.fgn.cols=[]) (e3:c.cls=[]):TH c .nils .nils .nils []
 |x (s:List UInt8) (e1:c.idx.cols=[s]) (e2:c.fgn.cols=[]) (e3:c.cls=[]):TH c (.lit [[.str s]]) .nils .nils []
 |f (s:List UInt8) (bu:Blk) (e1:c.idx.cols=[]) (e2:c.fgn.cols=[s]) (e3:c.cls=[]):TH c .nils (.lit [[.str s]]) .nils [bu]
 |o (e1:c.idx.cols=[]) (e2:c.fgn.cols=[]) (e3:c.cls.length≤6):TH c .nils .nils (.own 6 c.cls.length) [.rows 1 (SLs c.cls) false]
section
variable{L:List Int}{a B:Int}
set_option maxHeartbeats 4000000 in
theorem QP{T U:Code}(M:sqR 1 (sqA 7 (f7.body.getD .skip))=T)(N:sqR 8 (f7.body.getD .skip)=U)(h:Gd L a B)(hB:100≤B)(c:Chg){O P Q:AV}{D:Za}(W:TH c O P Q D)(r:c.new=zT)(hs:SmG c)(Y Z bc:Blk)(b:Bool):
  ∃(S:Chg) (a':Int),a≤a'∧a'≤a+50∧SmG S∧R K (.run 7 1 [.code T,.code U] [(0,.ptr 0 0),(4,.ptr 2 0),(6,.ptr 4 0),(181,.bool b)] (.cells [LR L,I a]::Y::.cells zC::Z::.cells (Zfv c O P Q)::bc::D))=some (.agg (Zb S),St L a'):=by
 simp only[f7,sqR,sqA,VP]at M N;subst M N;cases W
 all_goals
  rename_i f k d;have sx:=congrArg List.length f;have sf:=congrArg List.length k;cases b with
  |false =>
   refine⟨c,a,by omega,by omega,hs,?_⟩;simp only[go_sem,simprocAttr,Zfv,zC,Zv,Vd];simp[Zb,r,zT,f,k,d]
  |true =>
   have w:=Yb h (by omega) 6;have b0:=ZD L a 6 (by omega) (by omega);have E:=h.step (a+1) (B-1) (by omega) (by omega);generalize ZS L a 6=q at *;have hq:q=0∨q=1∨q=2∨q=3∨q=4∨q=5:=by omega
   rcases hq with rfl|rfl|rfl|rfl|rfl|rfl
   ·have p:=WU E (by omega) 0 16 (by omega) (by omega) (by omega);refine⟨{c with kd:=Jq L (a+1) 0 16},a+1+1,by omega,by omega,⟨hs.tb,hs.nm,hs.nm2,hs.cn,hs.xn,hs.xc,hs.fn,hs.fc,hs.cls,hs.new⟩,?_⟩;simp only[go_sem,simprocAttr,Zfv,zC,Zv,Vd,w,p];simp[Zb,r,zT,f,k,d]
   ·have p:=Yb E (by omega) 3;obtain⟨u,F,C⟩:=Je (l:=[[],[122,122],[116,97]]) (ZD L (a+1) 3 (by omega) (by omega));have G:u.length≤100:=(by decide:∀s∈([[],[122,122],[116,97]]:List (List UInt8)),s.length≤100) u F;simp only[SLs,Vz,VO]at C;refine⟨{c with tb:=u},a+1+1,by omega,by omega,⟨G,hs.nm,hs.nm2,hs.cn,hs.xn,hs.xc,hs.fn,hs.fc,hs.cls,hs.new⟩,?_⟩;simp only[go_sem,simprocAttr,Zfv,zC,Zv,Vd,w,p,C];simp[Zb,r,zT,f,k,d]
   ·have p:=Yb E (by omega) 3;obtain⟨u,F,C⟩:=Je (l:=[[],[122,122],[105,100]]) (ZD L (a+1) 3 (by omega) (by omega));have G:u.length≤100:=(by decide:∀s∈([[],[122,122],[105,100]]:List (List UInt8)),s.length≤100) u F;simp only[SLs,Vz,VO]at C;refine⟨{c with nm:=u},a+1+1,by omega,by omega,⟨hs.tb,G,hs.nm2,hs.cn,hs.xn,hs.xc,hs.fn,hs.fc,hs.cls,hs.new⟩,?_⟩;simp only[go_sem,simprocAttr,Zfv,zC,Zv,Vd,w,p,C];simp[Zb,r,zT,f,k,d]
   ·refine⟨{c with col:={c.col with nl:=!c.col.nl}},a+1,by omega,by omega,⟨hs.tb,hs.nm,hs.nm2,hs.cn,hs.xn,hs.xc,hs.fn,hs.fc,hs.cls,hs.new⟩,?_⟩;simp only[go_sem,simprocAttr,Zfv,zC,Zv,Vd,w];simp[Zb,r,zT,f,k,d]
   ·refine⟨{c with cls:=c.cls++[[105,100]]},a+1,by omega,by omega,⟨hs.tb,hs.nm,hs.nm2,hs.cn,hs.xn,hs.xc,hs.fn,hs.fc,by simp[d];try omega,hs.new⟩,?_⟩;have rm:(17≤Zp)=True:=V5 (by unfold Zp;omega);have J:((c.cls.length+1)*17≤Zp)=True:=V5 (by unfold Zp;first|omega|simp[d]);have ap:SLs c.cls++[[AV.str [105,100]]]=SLs (c.cls++[[105,100]]):=by simp[SLs]
    simp only[go_sem,simprocAttr,Zfv,zC,Zv,Vd,w,rm,J,ap];simp[Zb,r,zT,f,k,d]
   obtain⟨v,a1,p,C,q2,q3,q4⟩:=Zz2 E (by omega);refine⟨{c with col:={c.col with df:=v}},a1,by omega,by omega,⟨hs.tb,hs.nm,hs.nm2,hs.cn,hs.xn,hs.xc,hs.fn,hs.fc,hs.cls,hs.new⟩,?_⟩;simp only[enc]at p;simp only[go_sem,simprocAttr,Zfv,zC,Zv,Vd,w,p];simp[Zb,r,zT,f,k,d]
end
theorem SmG.smc(h:SmG c):SmC c:=⟨by have:=h.new.cols;omega,by have:=h.new.key;omega,by rw[h.new.fgn];simp,by have:=h.new.idx;omega⟩
theorem SzT.sm(h:SzT t m)(b:m≤900):SmT t:=⟨by have:=h.cl;omega,by have:=h.key;omega,by have:=h.fl;omega,by have:=h.il;omega,fun f hf=>by have:=(h.fg f hf).2;omega,fun f hf=>by have:=(h.ix f hf).2;omega⟩
theorem FitX.of(hx:FitX x)(hl:y.length≤1000000)(h:∀u∈y,u∈x∨FitT u):FitX y:=⟨hl,fun u b=>(h u b).elim (hx.tbl u) id⟩
theorem FitX.set(hx:FitX x)(i:Nat){u:Tbl}(b:FitT u):FitX (x.set i u):=hx.of (by rw[Vq];exact hx.len) fun v d=>(VL d).imp id fun e=>by rw[e];exact b
theorem FitX.srt(hx:FitX x):FitX (Ye (fun t=>t.nm) x):=hx.of (by rw[(Yn _ x).length_eq];exact hx.len) fun u b=>.inl ((Yn _ x).mem_iff.1 b)
section
variable{t:Tbl}(ht:FitT t)
include ht
theorem FitT.cols'{l:List Col}(b:l.length≤1000000)(h2:∀a∈l,a.nm.length≤100000000):FitT ⟨t.nm,l,t.key,t.fgn,t.idx⟩:=⟨ht.nm,b,ht.key,ht.fgn,ht.idx,h2,ht.fg,ht.ix⟩
theorem FitT.idx'{l:List Idx}(b:l.length≤1000000)(h2:∀a∈l,a.nm.length≤100000000∧a.cols.length≤1000000):FitT ⟨t.nm,t.cols,t.key,t.fgn,l⟩:=⟨ht.nm,ht.cols,ht.key,ht.fgn,b,ht.col,ht.fg,h2⟩
theorem FitT.fgn'{l:List Fgn}(b:l.length≤1000000)(h2:∀a∈l,a.nm.length≤100000000∧a.cols.length≤1000000):FitT ⟨t.nm,t.cols,t.key,l,t.idx⟩:=⟨ht.nm,ht.cols,ht.key,b,ht.idx,ht.col,h2,ht.ix⟩
theorem FitT.setC{a:Col}(j:Nat)(h2:a.nm.length≤100000000):FitT ⟨t.nm,t.cols.set j a,t.key,t.fgn,t.idx⟩:=ht.cols' (by rw[Vq];exact ht.cols) fun b d=>(VL d).elim (ht.col b) fun e=>by rw[e];exact h2
end
structure Okc(x:List Tbl)(c:Chg):Prop where
 sz:SzX x 5
 chk:X8 x=0
 kd:1≤c.kd∧c.kd≤15
 form:ZgW c=true
 g:SmG c
section
variable{x:List Tbl}{c:Chg}
theorem Okc.fit(o:Okc x c):FitX x:=o.sz.fit (by omega)
theorem Okc.sm(o:Okc x c):∀t∈x,SmT t:=fun t ht=>(o.sz.tbl t ht).sm (by omega)
theorem Okc.len(o:Okc x c):x.length≤1000:=by have:=o.sz.l3;omega
theorem Okc.pf(o:Okc x c):R K (.call 53 [.agg (Zb c),.agg ((XZ c.kd).map .bool)] [])=some (.bool true,[]):=by
 have:=Zfk c o.kd o.g.smc
 rwa [o.form]at this
theorem MadeH.done{last:AV}(h:MadeH (cgH x c last) H 4 y):Done H y:=⟨h.fr.trans rfl,h.k⟩
abbrev WH(x:List Tbl)(c:Chg)(e:Int)(y:List Tbl):Prop:=R K (.call 8 [ZX x,.agg (Zb c)] [])=some (I (if e=0 then X8 y else e),[])∧(e=0→FitX y)
theorem YB(o:Okc x c){i:Nat}{e:Int}(y:List Tbl)(d:c.kd≠1)(ht:ixN c.tb (x.map (·.nm)) 0=(i:Int))(hi:x[i]?=some t)(b:e≠0)
  (f:R K (.call 56 [.ptr 4 0] (cgH x c (.optr 7 x.length i 0)))=some (I e,cgH x c (.optr 7 x.length i 0)++H)):WH x c e y:=by
 unfold WH;rw[Vm b];refine⟨?_,fun h=>absurd h b⟩;exact ZBf o.fit o.sm o.len o.chk o.kd o.pf d ht (Vb.1 hi).1 b f rfl
theorem QQ(o:Okc x c){i:Nat}(d:c.kd≠1)(ht:ixN c.tb (x.map (·.nm)) 0=(i:Int))(hi:x[i]?=some t)(b:FitX y)
  (f:R K (.call 56 [.ptr 4 0] (cgH x c (.optr 7 x.length i 0)))=some (I 0,H)) (k:MadeH (cgH x c (.optr 7 x.length i 0)) H 4 y):WH x c 0 y:=by
 unfold WH;rw[Vr rfl];refine⟨?_,fun _=>b⟩;exact ZDh o.fit o.sm o.len o.chk o.kd o.pf d ht (Vb.1 hi).1 b f k.done
theorem Okc.at'(_:Okc x c)(hi:x[i]?=some t):∃T,(XC 8 x)[i]?=some T∧T.tbl=t∧T.own∧(cgH x c (.optr 7 x.length i 0))[4]?=some (.cells (kcC 7 (XC 8 x).length i c))∧2∉T.pl:=by obtain⟨T,b,h2⟩:=ZuJ (n:=8) hi;refine⟨T,b,h2,Zib _ _ T (Ve b),by rw[XR];rfl,fun h=>?_⟩;have:=ZzS x T (Ve b) 2 h;omega
theorem Zha(last:AV):(7:Nat)≠2∧(4:Nat)≠2∧2<(cgH x c last).length:=⟨by omega,by omega,by simp⟩
end
attribute [-go_sem] Zy Zs ZH Z1 ZL Yd Z0
section
variable{x:List Tbl}{c:Chg}(hx:FitX x)(hs:∀t∈x,SmT t)(hl:x.length≤1000)(h0:X8 x=0)(hk:1≤c.kd∧c.kd≤15)(hf:R K (.call 53 [.agg (Zb c),.agg ((XZ c.kd).map .bool)] [])=some (.bool true,[]))
include hx hs hl h0 hk hf
theorem ZyK{e':Int}(l:c.kd=1)(p:e'≠0)
  (d:R K (.call 56 [.ptr 4 0] (cgH x c .nilp))=some (I e',H')) (f:H'[2]?=some (.cells [.nils])):R K (.call 8 [ZX x,.agg (Zb c)] [])=some (I e',[]):=by
 have k:=YZ x hx;have h2:=Zbk c.kd hk;have h3:=WT x hl hs;have b:(c.kd==1)=true:=by simpa using l
 have q:(e'==0)=false:=by simpa using p
 obtain⟨s,u,v,w,C,E,F,G,e⟩:=ZkM c.kd;rw[h0]at k;rw[e]at h2 hf;simp only[cgH,e,Vz,VO,Zb,Vl,Vi]at d;simp only[Vz,VO]at h2 hf;simp only[Zb]at hf;have key:∃H,R K (.call 27 [ZX x,.agg (Zb c)] [])=some (.tup [.agg [.nils],I e'],H):=by refine⟨H'.set 2 (.cells [.nils]),?_⟩;have r:(H'.set 2 (.cells [.nils]))[2]?=some (.cells [.nils]):=Vf (Vb.1 f).1;rw[Wx];simp only[go_sem,simprocAttr,f27,Zb,k,h2,h3,hf,bne,b,d,q,f,r,Xb,Xd,VC,VI]
 obtain⟨H,key⟩:=key;exact Yo (.inl rfl) key
theorem ZAu(M:c.kd=1)(N:FitX y)
  (d:R K (.call 56 [.ptr 4 0] (cgH x c .nilp))=some (I 0,H')) (F:Done H' y):R K (.call 8 [ZX x,.agg (Zb c)] [])=some (I (X8 y),[]):=by
 have f:=YZ x hx;have h2:=Zbk c.kd hk;have h3:=WT x hl hs;have b:(c.kd==1)=true:=by simpa using M
 have p:=F.z;obtain⟨a,rest,r,O,w⟩:=F.k;have s:=ZeN O [] [] rfl;have u:=YZ y N;obtain⟨P,Q,S,U,W,Y,Z,b7,e⟩:=ZkM c.kd;rw[h0]at f;rw[e]at h2 hf;simp only[cgH,e,Vz,VO,Zb,Vl,Vi]at d;simp only[Vz,VO]at h2 hf;simp only[Zb]at hf;generalize X8 y=C at *;have v:∀z,(H'.set 2 (.cells [z]))[2]?=some (.cells [z]):=fun z=>Vf (Vb.1 p).1;by_cases G:C=0
 ·subst G;have key:∃a H,(a=.nils∨a=.rows []∨(∃l n,a=.own l n)∨∃l n m,a=.vw l n 0 m)∧R K (.call 27 [ZX x,.agg (Zb c)] [])=some (.tup [.agg [a],I 0],H):=by
   refine⟨a,H'.set 2 (.cells [a]),?_,?_⟩
   ·rcases w with⟨l,n,_,_,e,_⟩|e
    ·exact .inr (.inr (.inl ⟨l,n,e⟩))
    exact .inr (.inr (.inr e))
   rcases w with⟨l,n,z,rs,rfl,E⟩|⟨l,n,m,rfl⟩
   ·rw[Wx];simp only[go_sem,simprocAttr,f27,Zb,f,h2,h3,hf,bne,b,d,p,v,r,E,s,u,Xb,Xd,VC,VI]
   rw[Wx];simp only[go_sem,simprocAttr,f27,Zb,f,h2,h3,hf,bne,b,d,p,v,r,s,u,Xb,Xd,VC,VI]
  obtain⟨a',H,q,key⟩:=key;exact Yo q key
 have J:(C==0)=false:=by simpa using G
 have key:∃H,R K (.call 27 [ZX x,.agg (Zb c)] [])=some (.tup [.agg [.nils],I C],H):=by
  refine⟨H'.set 2 (.cells [.nils]),?_⟩;rcases w with⟨l,n,z,rs,rfl,E⟩|⟨l,n,m,rfl⟩
  ·rw[Wx];simp only[go_sem,simprocAttr,f27,Zb,f,h2,h3,hf,bne,b,d,p,v,r,E,s,u,J,Xb,Xd,VC,VI]
  rw[Wx];simp only[go_sem,simprocAttr,f27,Zb,f,h2,h3,hf,bne,b,d,p,v,r,s,u,J,Xb,Xd,VC,VI]
 obtain⟨H,key⟩:=key;exact Yo (.inl rfl) key
end
theorem p_1(o:Okc x c)(b:c.kd=1):WH x c (if 0≤ixN c.new.nm (x.map (·.nm)) 0 then 6 else 0) (Ye (fun t=>t.nm) (x++[c.new])):=by
 have sm:SmT c.new:=⟨by have:=o.g.new.cols;omega,by have:=o.g.new.key;omega,by rw[o.g.new.fgn];simp,by have:=o.g.new.idx;omega,by rw[o.g.new.fgn];simp,fun f hf=>by have:=(o.g.new.ix f hf).2;omega⟩;have L:=Zg3 (Jw x c .nilp) (WS x c (.inl rfl)) (kc:=4) (c:=c) (by rw[XR];rfl) b (by rw[Yw];exact o.fit) (by rw[XR];have:=o.sz.l3;omega) sm (Zha .nilp);rw[Yw]at L;unfold WH;by_cases h:0≤ixN c.new.nm (x.map (·.nm)) 0
 ·rw[Vr h]at L ⊢;rw[Vm (by omega)];refine⟨?_,fun h=>by omega⟩;exact ZyK o.fit o.sm o.len o.chk o.kd o.pf b (by omega) (QX rfl (.inl b) L) rfl
 rw[Vm h]at L ⊢;obtain⟨H,l,p⟩:=L;rw[Vr rfl];have fy:FitX (Ye (fun t=>t.nm) (x++[c.new])):=by
  refine FitX.srt (o.fit.of (by have:=o.len;simp;omega) fun u d=>?_);rcases Vg.1 d with d|d
  ·exact .inl d
  rw[VH]at d;rw[d];exact .inr ⟨by have:=o.g.new.nm;omega,sm.cols,sm.key,by have:=sm.fgn;omega,by have:=sm.idx;omega,fun a k=>by have:=o.g.new.col a k;omega,by rw[o.g.new.fgn];simp,fun a k=>by have:=o.g.new.ix a k;omega⟩
 exact⟨ZAu o.fit o.sm o.len o.chk o.kd o.pf b fy (QX rfl (.inl b) l) p.done,fun _=>fy⟩
attribute [go_sem] Zy Zs ZH Z1 ZL Yd Z0
theorem Zjf{α β:Type}(f:α→β):∀(l:List α) (i:Nat),(l.map f).eraseIdx i=(l.eraseIdx i).map f
 |[],_| a::l,0=>by simp
 |a::l,i+1=>by simp[Zjf f l i]
theorem Zt4{h:Za}{kc:Nat}(hs:SchAt h lt X)(hi:X[i]?=some T)(hk:h[kc]?=some (.cells (kcC lt X.length i c)))(h2:lt≠2∧kc≠2∧2<h.length)(h3:2∉T.pl)(f:m<T.is.length):
  MadeH h ((h.set T.li (.rows 3 ((T.is.eraseIdx m).map ZJ++[[.str [],.nils,.bool false]]) true)).set lt (.rows 5 ((X.map Zn).set i [.str T.nm,.own T.lc T.cols.length,.own T.lk T.key.length,.own T.lf T.fs.length,.vw T.li T.is.length 0 (T.is.length-1)]) true)++[.cells (Zb c)]) kc ((X.map LT.tbl).set i ⟨T.tbl.nm,T.tbl.cols,T.tbl.key,T.tbl.fgn,T.tbl.idx.eraseIdx m⟩):=by
 have b:=Ve hi;have s:=hs.ht T b;have u:=(Vb.1 s.i).1;have k:=(Vb.1 hs.tb).1;have p:lt≠T.li:=fun e=>hs.ne b (by rw[e];simp[LT.pl]);refine hs.made (A:=(h.set T.li (.rows 3 ((T.is.eraseIdx m).map ZJ++[[.str [],.nils,.bool false]]) true)).set lt (.rows 5 ((X.map Zn).set i [.str T.nm,.own T.lc T.cols.length,.own T.lk T.key.length,.own T.lf T.fs.length,.vw T.li T.is.length 0 (T.is.length-1)]) true)) (tail:=[.cells (Zb c)]) hi hk h2 h3 rfl (by simp only[Vq]) (gL (Vf (by rw[Vq];exact k)) _) ?_ (fun l r d=>by rw[Vc (fun e=>r e.symm),Vc (fun e=>d (by rw[←e];simp[LT.pl]))]);have d:T.tbl.idx.eraseIdx m=(T.is.eraseIdx m).map (·.x):=Zjf _ _ _;rw[d];refine HT.idx' s (.vw _ 3 _ _ _ [[.str [],.nils,.bool false]] true (gL (by rw[Vc p];exact Vf u) _) ?_ ?_) (Pp ..) (fun l r d=>?_) (Xu hs hi)
 ·simp only[Vu,Vd,U9,Uo,Vr f];omega
 ·simp only[Vd,U9,Vr f]
 have q:=hs.lo T b l d;have v:lt≠l:=fun e=>hs.ne b (by rw[e];exact d);rw[Vh (by simpa using q),Vc v,Vc (fun e=>r e.symm)]
theorem Zvy{h:Za}{kc:Nat}(hs:SchAt h lt X)(hi:X[i]?=some T)(hk:h[kc]?=some (.cells (kcC lt X.length i c)))(h2:lt≠2∧kc≠2∧2<h.length)(h3:2∉T.pl)(k:m<T.fs.length):
  MadeH h ((h.set T.lf (.rows 3 ((T.fs.eraseIdx m).map ZF++[[.str [],.nils,.str []]]) true)).set lt (.rows 5 ((X.map Zn).set i [.str T.nm,.own T.lc T.cols.length,.own T.lk T.key.length,.vw T.lf T.fs.length 0 (T.fs.length-1),.own T.li T.is.length]) true)++[.cells (Zb c)]) kc ((X.map LT.tbl).set i ⟨T.tbl.nm,T.tbl.cols,T.tbl.key,T.tbl.fgn.eraseIdx m,T.tbl.idx⟩):=by
 have b:=Ve hi;have u:=hs.ht T b;have v:=(Vb.1 u.f).1;have p:=(Vb.1 hs.tb).1;have r:lt≠T.lf:=fun e=>hs.ne b (by rw[e];simp[LT.pl]);refine hs.made (A:=(h.set T.lf (.rows 3 ((T.fs.eraseIdx m).map ZF++[[.str [],.nils,.str []]]) true)).set lt (.rows 5 ((X.map Zn).set i [.str T.nm,.own T.lc T.cols.length,.own T.lk T.key.length,.vw T.lf T.fs.length 0 (T.fs.length-1),.own T.li T.is.length]) true)) (tail:=[.cells (Zb c)]) hi hk h2 h3 rfl (by simp only[Vq]) (gL (Vf (by rw[Vq];exact p)) _) ?_ (fun l s d=>by rw[Vc (fun e=>s e.symm),Vc (fun e=>d (by rw[←e];simp[LT.pl]))]);have d:T.tbl.fgn.eraseIdx m=(T.fs.eraseIdx m).map (·.f):=Zjf _ _ _;rw[d];refine HT.fgn' u (.vw _ 3 _ _ _ [[.str [],.nils,.str []]] true (gL (by rw[Vc r];exact Vf v) _) ?_ ?_) (Pp ..) (fun l s d=>?_) (Xu hs hi)
 ·simp only[Vu,Vd,U9,Uo,Vr k];omega
 ·simp only[Vd,U9,Vr k]
 have q:=hs.lo T b l d;have w:lt≠l:=fun e=>hs.ne b (by rw[e];exact d);rw[Vh (by simpa using q),Vc w,Vc (fun e=>s e.symm)]
section
variable{x:List Tbl}{c:Chg}{i:Nat}{t:Tbl}(o:Okc x c)(ht:ixN c.tb (x.map (·.nm)) 0=(i:Int))(hi:x[i]?=some t)
include o ht hi
theorem p_2(b:c.kd=2):WH x c (if ZiV x c.tb c.tb=true then 11 else 0) (Ye (fun t=>t.nm) (x.filter fun t=>!(t.nm==c.tb))):=by
 obtain⟨T,f,h2,q,d,r⟩:=o.at' hi;have L:=Zjx (Jw x c (.optr 7 x.length i 0)) (WS x c (.inr ⟨i,rfl⟩)) d f b (by rw[Yw];exact o.fit) (by rw[XR];have:=o.sz.l3;omega) (by rw[Yw];exact ht) (Zha _);rw[Yw]at L;by_cases h:ZiV x c.tb c.tb=true
 ·rw[Vr h]at L ⊢;exact YB o _ (by omega) ht hi (by omega) (QX d (.inr (.inl b)) L)
 rw[Vm h]at L ⊢;obtain⟨H,k,l⟩:=L;exact QQ o (by omega) ht hi (FitX.srt (o.fit.of (by have:=o.len;have:=Po (fun t:Tbl=>!(t.nm==c.tb)) x;omega) fun u p=>.inl (List.mem_filter.1 p).1)) (QX d (.inr (.inl b)) k) l
theorem p_3(d:c.kd=3):WH x c (if Xw c.nm=false then 5 else if 0≤ixN c.nm (x.map (·.nm)) 0 then 6 else 0) (Ye (fun t=>t.nm) ((x.set i ⟨c.nm,t.cols,t.key,t.fgn,t.idx⟩).map (reT c.tb c.nm))):=by
 obtain⟨T,s,h2,J,l,M⟩:=o.at' hi;have f:c.nm.length≤100000000:=by have:=o.g.nm;omega
 have L:=Zg5 (Jw x c (.optr 7 x.length i 0)) (WS x c (.inr ⟨i,rfl⟩)) l s d (by rw[Yw];exact o.fit) (by rw[XR];have:=o.sz.l3;omega) (fun U q=>by
   have w:U.tbl∈x:=by rw[←Yw x 8];exact VE.2 ⟨U,q,rfl⟩
   have:=(o.sm _ w).fgn;simpa[LT.tbl]using this) f (Zha _) (fun U q h=>by
   have:=ZzS x U q 2 h;omega)
 rw[Yw,h2]at L;by_cases p:Xw c.nm=false
 ·rw[Vr p]at L ⊢;exact YB o _ (by omega) ht hi (by omega) (QX l (.inr (.inr d)) L)
 rw[Vm p]at L ⊢;by_cases h:0≤ixN c.nm (x.map (·.nm)) 0
 ·rw[Vr h]at L ⊢;exact YB o _ (by omega) ht hi (by omega) (QX l (.inr (.inr d)) L)
 rw[Vm h]at L ⊢;obtain⟨H,C,E⟩:=L;refine QQ o (by omega) ht hi (FitX.srt ⟨by have:=o.len;simp;omega,fun u F=>?_⟩) (QX l (.inr (.inr d)) C) E;obtain⟨v,k,rfl⟩:=VE.1 F;have r:FitT v:=by
  rcases VL k with k|k
  ·exact o.fit.tbl v k
  have:=o.fit.tbl t (Ve hi);rw[k];exact⟨f,this.cols,this.key,this.fgn,this.idx,this.col,this.fg,this.ix⟩
 refine r.fgn' (by rw[Vd];exact r.fgn) fun a G=>?_;obtain⟨b,p,rfl⟩:=VE.1 G;have:=r.fg b p;unfold reF;split<;>exact this
theorem ZDH(b:c.kd=11):WH x c (if 0≤ixN c.idx.nm (t.idx.map (·.nm)) 0 then 6 else 0) (x.set i ⟨t.nm,t.cols,t.key,t.fgn,Ye (fun f=>f.nm) (t.idx++[c.idx])⟩):=by
 obtain⟨T,q,rfl,v,k,r⟩:=o.at' hi;have l:=o.fit.tbl _ (Ve hi);have p:=o.sz.tbl _ (Ve hi);have L:=Zk2 (Jw x c (.optr 7 x.length i 0)) (WS x c (.inr ⟨i,rfl⟩)) k q l b (by have:=o.g.xc;omega) (by have:=p.il;simp only[LT.tbl,Vd]at this;omega) (Zha _) r;rw[Yw]at L;by_cases h:0≤ixN c.idx.nm (T.tbl.idx.map (·.nm)) 0
 ·rw[Vr h]at L ⊢;exact YB o _ (by omega) ht hi (by omega) (JF k (.inl b) L)
 rw[Vm h]at L ⊢;obtain⟨H,s,u⟩:=L;refine QQ o (by omega) ht hi (o.fit.set i (l.idx' (by rw[(Yn _ _).length_eq];have:=p.il;simp;omega) fun a d=>?_)) (JF k (.inl b) s) u;rcases Vg.1 ((Yn _ _).mem_iff.1 d)with d|d
 ·exact l.ix a d
 rw[VH]at d;rw[d];have:=o.g.xn;have:=o.g.xc;exact⟨by omega,by omega⟩
theorem ZEI(b:c.kd=13):WH x c (if 0≤ixN c.fgn.nm (t.fgn.map (·.nm)) 0 then 6 else 0) (x.set i ⟨t.nm,t.cols,t.key,Ye (fun f=>f.nm) (t.fgn++[c.fgn]),t.idx⟩):=by
 obtain⟨T,q,rfl,v,k,r⟩:=o.at' hi;have l:=o.fit.tbl _ (Ve hi);have p:=o.sz.tbl _ (Ve hi);have L:=Zlb (Jw x c (.optr 7 x.length i 0)) (WS x c (.inr ⟨i,rfl⟩)) k q l b (by have:=o.g.fc;omega) (by have:=p.fl;simp only[LT.tbl,Vd]at this;omega) (Zha _) r;rw[Yw]at L;by_cases h:0≤ixN c.fgn.nm (T.tbl.fgn.map (·.nm)) 0
 ·rw[Vr h]at L ⊢;exact YB o _ (by omega) ht hi (by omega) (JF k (.inr (.inr (.inl b))) L)
 rw[Vm h]at L ⊢;obtain⟨H,s,u⟩:=L;refine QQ o (by omega) ht hi (o.fit.set i (l.fgn' (by rw[(Yn _ _).length_eq];have:=p.fl;simp;omega) fun a d=>?_)) (JF k (.inr (.inr (.inl b))) s) u;rcases Vg.1 ((Yn _ _).mem_iff.1 d)with d|d
 ·exact l.fg a d
 rw[VH]at d;rw[d];have:=o.g.fn;have:=o.g.fc;exact⟨by omega,by omega⟩
theorem ZD1(b:c.kd=12):WH x c (if ixN c.nm (t.idx.map (·.nm)) 0<0 then 5 else 0) (x.set i ⟨t.nm,t.cols,t.key,t.fgn,t.idx.eraseIdx (ixN c.nm (t.idx.map (·.nm)) 0).toNat⟩):=by
 obtain⟨T,k,rfl,v,d,p⟩:=o.at' hi;have f:=o.fit.tbl _ (Ve hi);have hs:=Jw x c (.optr 7 x.length i 0);have q:=Ve k;have r:ixN c.nm (T.tbl.idx.map (·.nm)) 0<(T.is.length:Int):=by
  rcases Q5 c.nm (T.tbl.idx.map (·.nm))with h|⟨j,e,hj⟩
  ·omega
  have:=(Vb.1 hj).1;simp only[LT.tbl,Vd]at this;omega
 have L:=Zmr hs d k f b rfl r;by_cases h:ixN c.nm (T.tbl.idx.map (·.nm)) 0<0
 ·rw[Vr h]at L ⊢;exact YB o _ (by omega) ht hi (by omega) (JF d (.inr (.inl b)) L)
 rw[Vm h]at L ⊢;generalize w:ixN c.nm (T.tbl.idx.map (·.nm)) 0=m at *;have s:(T.is.map ZJ).eraseIdx m.toNat=(T.is.eraseIdx m.toNat).map ZJ:=Zjf _ _ _;have l:m.toNat<T.is.length:=by omega
 rw[s]at L;have M:=Zt4 hs k d (Zha _) p l;rw[Yw]at M;exact QQ o (by omega) ht hi (o.fit.set i (f.idx' (by have:=f.idx;rw[U9];split<;>omega) fun a u=>f.ix a (Pe u))) (JF d (.inr (.inl b)) L) M
theorem ZEG(b:c.kd=14):WH x c (if ixN c.nm (t.fgn.map (·.nm)) 0<0 then 5 else 0) (x.set i ⟨t.nm,t.cols,t.key,t.fgn.eraseIdx (ixN c.nm (t.fgn.map (·.nm)) 0).toNat,t.idx⟩):=by
 obtain⟨T,k,rfl,v,d,p⟩:=o.at' hi;have f:=o.fit.tbl _ (Ve hi);have hs:=Jw x c (.optr 7 x.length i 0);have q:=Ve k;have r:ixN c.nm (T.tbl.fgn.map (·.nm)) 0<(T.fs.length:Int):=by
  rcases Q5 c.nm (T.tbl.fgn.map (·.nm))with h|⟨j,e,hj⟩
  ·omega
  have:=(Vb.1 hj).1;simp only[LT.tbl,Vd]at this;omega
 have L:=Zmt hs d k f b rfl r;by_cases h:ixN c.nm (T.tbl.fgn.map (·.nm)) 0<0
 ·rw[Vr h]at L ⊢;exact YB o _ (by omega) ht hi (by omega) (JF d (.inr (.inr (.inr b))) L)
 rw[Vm h]at L ⊢;generalize w:ixN c.nm (T.tbl.fgn.map (·.nm)) 0=m at *;have s:(T.fs.map ZF).eraseIdx m.toNat=(T.fs.eraseIdx m.toNat).map ZF:=Zjf _ _ _;have l:m.toNat<T.fs.length:=by omega
 rw[s]at L;have M:=Zvy hs k d (Zha _) p l;rw[Yw]at M;exact QQ o (by omega) ht hi (o.fit.set i (f.fgn' (by have:=f.fgn;rw[U9];split<;>omega) fun a u=>f.fg a (Pe u))) (JF d (.inr (.inr (.inr b))) L) M
end
theorem Zi4{α:Type}{a:α}:∀{l:List α} {i:Nat},l[i]?=some a→l.set i a=l
 |[],_,h=>by simp at h
 |b::l,0,h=>by simp only[Vt,Va]at h;rw[h];rfl
 |b::l,i+1,h=>by simp only[VJ]at h;rw[Sz,Zi4 h]
theorem Zrp(cols:List Col):∀(l pre:List (List UInt8)) (L:List Col),(∀a∈L,a∈cols)→(Xs cols pre L l).2.length≤L.length+l.length∧∀a∈(Xs cols pre L l).2,a∈cols
 |[],pre,L,h=>⟨by simp[Xs],h⟩
 |n::l,pre,L,h=>by
  unfold Xs;split
  ·exact⟨by simp,h⟩
  split
  ·exact⟨by simp,h⟩
  have:=Zrp cols l (pre++[n]) (L++(cols[(ixN n (cols.map (·.nm)) 0).toNat]?).toList) (fun a b=>by
   rcases Vg.1 b with b|b
   ·exact h a b
   exact Ve (Option.mem_toList.1 b))
  refine⟨Uu this.1 ?_,this.2⟩;have:(cols[(ixN n (cols.map (·.nm)) 0).toNat]?).toList.length≤1:=by cases cols[(ixN n (cols.map (·.nm)) 0).toNat]?<;>simp
  simp only[Vu,VC];omega
section
variable{h:Za}{kc lt i:Nat}{X:List LT}{T:LT}{c:Chg}(hs:SchAt h lt X)(hi:X[i]?=some T)(hk:h[kc]?=some (.cells (kcC lt X.length i c)))(h2:lt≠2∧kc≠2∧2<h.length)(h3:2∉T.pl)
include hs hi hk h2 h3
theorem Zns(cols:List Col)(more:List (List AV))(a:AV)(tail:Za)(k:(a=.own T.lc cols.length∧more=[])∨a=.vw T.lc (cols.length+more.length) 0 cols.length):
  MadeH h ((h.set T.lc (.rows 6 (cols.map Zh++more) true)).set lt (.rows 5 ((X.map Zn).set i [.str T.nm,a,.own T.lk T.key.length,.own T.lf T.fs.length,.own T.li T.is.length]) true)++tail) kc ((X.map LT.tbl).set i ⟨T.tbl.nm,cols,T.tbl.key,T.tbl.fgn,T.tbl.idx⟩):=by
 have b:=Ve hi;have p:=(Vb.1 (hs.ht T b).c).1;have d:=(Vb.1 hs.tb).1;have f:lt≠T.lc:=fun e=>hs.ne b (by rw[e];simp[LT.pl]);have g:=gL (show((h.set T.lc (.rows 6 (cols.map Zh++more) true)).set lt (.rows 5 ((X.map Zn).set i [.str T.nm,a,.own T.lk T.key.length,.own T.lf T.fs.length,.own T.li T.is.length]) true))[T.lc]?=_ by rw[Vc f];exact Vf p) tail;refine hs.madeC (A:=(h.set T.lc (.rows 6 (cols.map Zh++more) true)).set lt (.rows 5 ((X.map Zn).set i [.str T.nm,a,.own T.lk T.key.length,.own T.lf T.fs.length,.own T.li T.is.length]) true)) (tail:=tail) hi hk h2 h3 rfl (by simp only[Vq]) (gL (Vf (by rw[Vq];exact d)) _) ?_ (fun l q r=>by rw[Vc (fun e=>q e.symm),Vc (fun e=>r e.symm)]);rcases k with⟨rfl,rfl⟩|rfl
 ·exact .own _ 6 _ _ true (by rw[g,Vv]) (by simp)
 exact .vw _ 6 _ _ _ more true g (by simp) (by simp)
theorem Zv6(cols:List Col)(tail:Za)(hl:cols.length=T.cols.length):MadeH h (h.set T.lc (.rows 6 (cols.map Zh) true)++tail) kc ((X.map LT.tbl).set i ⟨T.tbl.nm,cols,T.tbl.key,T.tbl.fgn,T.tbl.idx⟩):=by
 have b:=Ve hi;have f:=(Vb.1 (hs.ht T b).c).1;have d:lt≠T.lc:=fun e=>hs.ne b (by rw[e];simp[LT.pl]);have e:(X.map Zn).set i (Zn T)=X.map Zn:=by rw[←V9,Zi4 hi]
 refine hs.madeC (A:=h.set T.lc (.rows 6 (cols.map Zh) true)) (tail:=tail) hi hk h2 h3 rfl (by simp only[Vq]) (a:=.own T.lc T.cols.length) ?_ (.own _ 6 _ _ true (gL (Vf f) tail) (by simpa using hl)) (fun l p k=>by rw[Vc (fun e=>k e.symm)]);rw[gL (show(h.set T.lc (.rows 6 (cols.map Zh) true))[lt]?=_ from(Vc (fun e=>d e.symm)).trans hs.tb) tail];exact congrArg (fun r=>some (Blk.rows 5 r true)) e.symm
theorem Zu2(cols:List Col):MadeH h (h.set lt (.rows 5 ((X.map Zn).set i [.str T.nm,.own (h.length+1) cols.length,.own T.lk T.key.length,.own T.lf T.fs.length,.own T.li T.is.length]) true)++[.cells (Zb c),.rows 6 (cols.map Zh) true]) kc ((X.map LT.tbl).set i ⟨T.tbl.nm,cols,T.tbl.key,T.tbl.fgn,T.tbl.idx⟩):=by have b:=(Vb.1 hs.tb).1;refine hs.madeC (A:=h.set lt (.rows 5 ((X.map Zn).set i [.str T.nm,.own (h.length+1) cols.length,.own T.lk T.key.length,.own T.lf T.fs.length,.own T.li T.is.length]) true)) (tail:=[.cells (Zb c),.rows 6 (cols.map Zh) true]) hi hk h2 h3 rfl (by simp only[Vq]) (gL (Vf b) _) ?_ (fun l d f=>by rw[Vc (fun e=>d e.symm)]);refine .own _ 6 _ _ true ?_ (by simp);rw[gA (N:=h.length) (by simp only[Vq])];rfl
end
section
variable{x:List Tbl}{c:Chg}{i:Nat}{t:Tbl}(o:Okc x c)(ht:ixN c.tb (x.map (·.nm)) 0=(i:Int))(hi:x[i]?=some t)
include o ht hi
theorem p_4(b:c.kd=4):WH x c (if 0≤ixN c.col.nm (t.cols.map (·.nm)) 0 then 6 else if(!c.col.nl&&c.col.df.k==0)=true then 9 else 0) (x.set i ⟨t.nm,t.cols++[c.col],t.key,t.fgn,t.idx⟩):=by
 obtain⟨T,p,rfl,u,f,q⟩:=o.at' hi;have l:=o.fit.tbl _ (Ve hi);have r:=o.sz.tbl _ (Ve hi);have hs:=Jw x c (.optr 7 x.length i 0);have L:=ZjF hs f p l b;have s:T.tbl.cols=T.cols:=rfl;rw[s];by_cases h:0≤ixN c.col.nm (T.cols.map (·.nm)) 0
 ·rw[Vr h]at L ⊢;exact YB o _ (by omega) ht hi (by omega) (XD f (.inl b) L)
 rw[Vm h]at L ⊢;by_cases h':(!c.col.nl&&c.col.df.k==0)=true
 ·rw[Vr h']at L ⊢;exact YB o _ (by omega) ht hi (by omega) (XD f (.inl b) L)
 rw[Vm h']at L ⊢;have M:=Zns hs p f (Zha _) q (T.cols++[c.col]) [] (.own T.lc (T.cols.length+1)) [.cells (Zb c)] (.inl ⟨by simp,rfl⟩);rw[Vv,Yw]at M;refine QQ o (by omega) ht hi (o.fit.set i (l.cols' (by have:T.cols.length≤6:=r.cl;simp;omega) fun a d=>?_)) (XD f (.inl b) L) M;rcases Vg.1 d with d|d
 ·exact l.col a d
 rw[VH]at d;rw[d];have:=o.g.cn;omega
theorem ZDX(k:5≤c.kd∧c.kd≤10)(h0:ixN c.nm (t.cols.map (·.nm)) 0<0)(y:List Tbl):WH x c 5 y:=by
 obtain⟨T,d,rfl,l,b,p⟩:=o.at' hi;have f:=o.fit.tbl _ (Ve hi);have hs:=Jw x c (.optr 7 x.length i 0);by_cases h:c.kd≤6
 ·exact YB o _ (by omega) ht hi (by omega) (XD b (by omega) (Zjh hs b d f (by omega) h0))
 exact YB o _ (by omega) ht hi (by omega) (Zcr b (by omega) (Ztn hs (WS x c (.inr ⟨i,rfl⟩)) b d f.cols h0))
theorem ZEA(b:c.kd=15):WH x c (if(Xs t.cols [] [] c.cls).1=0 then(if(Xs t.cols [] [] c.cls).2.length<t.cols.length then 3 else 0)else(Xs t.cols [] [] c.cls).1) (x.set i ⟨t.nm,(Xs t.cols [] [] c.cls).2,t.key,t.fgn,t.idx⟩):=by
 obtain⟨T,k,rfl,u,d,p⟩:=o.at' hi;have f:=o.fit.tbl _ (Ve hi);have hs:=Jw x c (.optr 7 x.length i 0);have L:=Zg9 hs (WS x c (.inr ⟨i,rfl⟩)) d k f b (by have:=o.g.cls;omega);have l:=Zrp T.cols c.cls [] [] (by simp);have q:T.tbl.cols=T.cols:=rfl;rw[q];generalize Xs T.cols [] [] c.cls=r at *;by_cases h:r.1=0
 ·rw[Vr h]at L ⊢;by_cases h':r.2.length<T.cols.length
  ·rw[Vr h']at L ⊢;exact YB o _ (by omega) ht hi (by omega) (XD d (.inr (.inr (.inr b))) L)
  rw[Vm h']at L ⊢;have M:=Zu2 hs k d (Zha _) p r.2;rw[Yw]at M;exact QQ o (by omega) ht hi (o.fit.set i (f.cols' (by have:=l.1;have:=o.g.cls;simp only[VI]at *;omega) fun a s=>f.col a (l.2 a s))) (XD d (.inr (.inr (.inr b))) L) M
 rw[Vm h]at L ⊢;exact YB o _ (by omega) ht hi h (XD d (.inr (.inr (.inr b))) L)
end
section
variable{x:List Tbl}{c:Chg}{i:Nat}{t:Tbl}(o:Okc x c)(ht:ixN c.tb (x.map (·.nm)) 0=(i:Int))(hi:x[i]?=some t)
include o ht hi
variable{j:Nat}{col:Col}(h0:ixN c.nm (t.cols.map (·.nm)) 0=(j:Int))(hj:t.cols[j]?=some col)
include h0 hj
theorem p_5(b:c.kd=5):WH x c (if Zkj t c.nm=true then 11 else 0) (x.set i ⟨t.nm,ZfH c.nm t.cols,t.key,t.fgn,t.idx⟩):=by
 obtain⟨T,k,rfl,r,d,l⟩:=o.at' hi;have f:=o.fit.tbl _ (Ve hi);have hs:=Jw x c (.optr 7 x.length i 0);have L:=Zf7 hs (WS x c (.inr ⟨i,rfl⟩)) d k f b h0 hj;by_cases h:Zkj T.tbl c.nm=true
 ·rw[Vr h]at L ⊢;exact YB o _ (by omega) ht hi (by omega) (XD d (.inr (.inl b)) L)
 rw[Vm h]at L ⊢;have p:(ZfH c.nm T.cols).length≤T.cols.length:=Po _ _;have M:=Zns hs k d (Zha _) l (ZfH c.nm T.cols) (List.replicate (T.cols.length-(ZfH c.nm T.cols).length) [.str [],I 0,.bool false,I 0,I 0,.str []]) (.vw T.lc T.cols.length 0 (ZfH c.nm T.cols).length) [.cells (Zb c)] (.inr (by rw[Uh];congr 1;omega));rw[Yw]at M;exact QQ o (by omega) ht hi (o.fit.set i (f.cols' (by have:=f.cols;exact Uu p this) fun a q=>f.col a (List.mem_filter.1 q).1)) (XD d (.inr (.inl b)) L) M
theorem p_6(k:c.kd=6):WH x c (if Xw c.nm2=false then 5 else if 0≤ixN c.nm2 (t.cols.map (·.nm)) 0 then 6 else 0) (x.set i (Zfh t j col c)):=by
 obtain⟨T,r,rfl,G,s,J⟩:=o.at' hi;have d:=o.fit.tbl _ (Ve hi);have hs:=Jw x c (.optr 7 x.length i 0);have C:=Ve r;have q:c.nm2.length≤100000000:=by have:=o.g.nm2;omega
 have N:T.tbl.cols=T.cols:=rfl;rw[N]at h0 hj ⊢;have u:Xw c.nm2=false∨0≤ixN c.nm2 (T.cols.map (·.nm)) 0→R K (.call 56 [.ptr 4 0] (cgH x c (.optr 7 x.length i 0)))=some (I (if Xw c.nm2=true then 6 else 5),cgH x c (.optr 7 x.length i 0)++[.cells (Zb c)]):=fun f=>XD s (.inr (.inr (.inl k))) (ZeV hs s r d k q h0 hj f);by_cases f:Xw c.nm2=false
 ·rw[Vr f];have v:=u (.inl f);rw[Vm (by rw[f];simp)]at v;exact YB o _ (by omega) ht hi (by omega) v
 rw[Vm f];have w:Xw c.nm2=true:=by simpa using f
 by_cases h:0≤ixN c.nm2 (T.cols.map (·.nm)) 0
 ·rw[Vr h];have v:=u (.inr h);rw[Vr w]at v;exact YB o _ (by omega) ht hi (by omega) v
 rw[Vm h];obtain⟨g,L,O,F,P⟩:=Zh7 hs (WS x c (.inr ⟨i,rfl⟩)) s r d k q (Xu hs r) h0 hj G ⟨by have:=d.fgn;simpa[LT.tbl]using this,by have:=d.idx;simpa[LT.tbl]using this⟩ w (by omega);have E:∀l,l∈T.pl→l≠7:=fun l hl e=>hs.ne C (e▸hl);have Q:((XC 8 x).map Zn).set i (Zn T)=(XC 8 x).map Zn:=by rw[←V9,Zi4 r]
 have M:=hs.made (t':=Zfh T.tbl j col c) (row:=Zn T) r s (Zha _) J rfl O (tail:=[.cells (Zb c)]) (by
   rw[Q];exact gL ((F 7 fun h=>E 7 h rfl).trans hs.tb) _) (by
   have:=(P.app [.cells (Zb c)]).seen;simpa[Zn,Zfh,LT.tbl,WF,V8,PL]using this) (fun l _ S=>F l S)
 rw[Yw]at M;refine QQ o (by omega) ht hi (o.fit.set i ⟨d.nm,?_,?_,?_,?_,?_,?_,?_⟩) (XD s (.inr (.inr (.inl k))) L) M
 ·have:=d.cols;simpa[Zfh]using this
 ·have:=d.key;simpa[Zfh,WF]using this
 ·have:=d.fgn;simpa[Zfh]using this
 ·have:=d.idx;simpa[Zfh]using this
 ·intro a p;rcases VL p with p|p
  ·exact d.col a p
  rw[p];exact q
 ·intro a p;obtain⟨b,f,rfl⟩:=VE.1 p;have:=d.fg b f;exact⟨this.1,by simpa[WF]using this.2⟩
 intro a p;obtain⟨b,f,rfl⟩:=VE.1 p;have:=d.ix b f;exact⟨this.1,by simpa[WF]using this.2⟩
theorem Zq3(f:c.kd=7∨c.kd=8∨c.kd=9∨c.kd=10)(T:LT)(k:(XC 8 x)[i]?=some T)(h2:T.tbl=t)(b:Col)(q:b.nm=col.nm){tail:Za}(L:R K (.call 122 [.ptr 4 0] (cgH x c (.optr 7 x.length i 0)))=some (I 0,(cgH x c (.optr 7 x.length i 0)).set T.lc (.rows 6 ((T.cols.set j b).map Zh) true)++tail)):WH x c 0 (x.set i ⟨t.nm,t.cols.set j b,t.key,t.fgn,t.idx⟩):=by subst h2;obtain⟨s,d,_,u,l,r⟩:=o.at' hi;rw[k]at d;cases d;have p:=o.fit.tbl _ (Ve hi);have hs:=Jw x c (.optr 7 x.length i 0);have M:=Zv6 hs k l (Zha _) r (T.cols.set j b) tail (by simp);rw[Yw]at M;exact QQ o (by omega) ht hi (o.fit.set i (p.setC j (by rw[q];exact p.col col (Ve hj)))) (Zcr l f L) M
theorem p_8(b:c.kd=8):WH x c (if t.key.contains c.nm=true then 11 else if col.nl=true then 17 else 0) (x.set i ⟨t.nm,t.cols.set j {col with nl:=true},t.key,t.fgn,t.idx⟩):=by
 obtain⟨T,f,rfl,p,d,q⟩:=o.at' hi;have k:=o.fit.tbl _ (Ve hi);have L:=ZmC (Jw x c (.optr 7 x.length i 0)) (WS x c (.inr ⟨i,rfl⟩)) d f k h0 hj b;have l:T.tbl.key=T.key:=rfl;rw[l];by_cases h:T.key.contains c.nm=true
 ·rw[Vr h]at L ⊢;exact YB o _ (by omega) ht hi (by omega) (Zcr d (.inr (.inl b)) L)
 rw[Vm h]at L ⊢;by_cases h':col.nl=true
 ·rw[Vr h']at L ⊢;exact YB o _ (by omega) ht hi (by omega) (Zcr d (.inr (.inl b)) L)
 rw[Vm h']at L ⊢;exact Zq3 o ht hi h0 hj (.inr (.inl b)) T f rfl {col with nl:=true} rfl L
theorem p_9(b:c.kd=9):WH x c (if col.nl=false then 17 else QA col.kd c.col.df) (x.set i ⟨t.nm,t.cols.set j {col with nl:=false,df:=if col.df.k=0 then c.col.df else col.df},t.key,t.fgn,t.idx⟩):=by
 obtain⟨T,f,rfl,p,d,q⟩:=o.at' hi;have l:=o.fit.tbl _ (Ve hi);have L:=ZmB (Jw x c (.optr 7 x.length i 0)) (WS x c (.inr ⟨i,rfl⟩)) d f l h0 hj b;by_cases h:col.nl=false
 ·rw[Vr h]at L ⊢;exact YB o _ (by omega) ht hi (by omega) (Zcr d (.inr (.inr (.inl b))) L)
 rw[Vm h]at L ⊢;by_cases h':QA col.kd c.col.df=0
 ·rw[Vr h']at L;rw[h'];exact Zq3 o ht hi h0 hj (.inr (.inr (.inl b))) T f rfl {col with nl:=false,df:=if col.df.k=0 then c.col.df else col.df} rfl L
 rw[Vm h']at L;exact YB o _ (by omega) ht hi h' (Zcr d (.inr (.inr (.inl b))) L)
theorem ZEz(b:c.kd=10):WH x c (QA col.kd c.col.df) (x.set i ⟨t.nm,t.cols.set j {col with df:=c.col.df},t.key,t.fgn,t.idx⟩):=by
 obtain⟨T,d,rfl,l,f,p⟩:=o.at' hi;have k:=o.fit.tbl _ (Ve hi);have L:=Zr1 (Jw x c (.optr 7 x.length i 0)) (WS x c (.inr ⟨i,rfl⟩)) f d k h0 hj b;by_cases h':QA col.kd c.col.df=0
 ·rw[Vr h']at L;rw[h'];exact Zq3 o ht hi h0 hj (.inr (.inr (.inr b))) T d rfl {col with df:=c.col.df} rfl L
 rw[Vm h']at L;exact YB o _ (by omega) ht hi h' (Zcr f (.inr (.inr (.inr b))) L)
theorem p_7(b:c.kd=7):WH x c (Zil x t c col) (x.set i ⟨t.nm,t.cols.set j {col with kd:=c.col.kd,df:=QU col.df c.col.kd},t.key,t.fgn,t.idx⟩):=by
 obtain⟨T,d,rfl,l,f,p⟩:=o.at' hi;have k:=o.fit.tbl _ (Ve hi);have L:=ZpV (Jw x c (.optr 7 x.length i 0)) (WS x c (.inr ⟨i,rfl⟩)) f d k h0 hj b (by rw[Yw];exact o.fit);rw[Yw]at L;by_cases h':Zil x T.tbl c col=0
 ·rw[Vr h']at L;rw[h'];exact Zq3 o ht hi h0 hj (.inl b) T d rfl {col with kd:=c.col.kd,df:=QU col.df c.col.kd} rfl L
 rw[Vm h']at L;exact YB o _ (by omega) ht hi h' (Zcr f (.inl b) L)
end
theorem Qg(ok:Bool)(e:Int):R K (.call 60 [.bool ok,I e] [])=some (I (if ok=true then e else 0),[]):=by
 cases ok
 ·rw[Zqr];simp only[go_sem,simprocAttr,f60]
 rw[Zqr];simp only[go_sem,simprocAttr,f60]
def Zja(t:Tbl)(l:List (List UInt8)):Int:=if QB t l Zbl=0 then(if l.length=t.cols.length then 0 else 3)else QB t l Zbl
theorem Zmn(t:Tbl)(ht:FitT t)(l:List (List UInt8))(hl:l.length≤1000000):R K (.call 65 [Yk t,.rows (SLs l)] [])=some (I (Zja t l),[]):=by
 have b:=Zam t ht.cols l hl;have h2:=ht.cols;unfold Zja;generalize QB t l Zbl=e at *;simp only[Yk,Zc]at b;by_cases h0:e=0
 ·subst h0;by_cases h3:l.length=t.cols.length
  ·have d:((l.length:Int)==(t.cols.length:Int))=true:=by rw[h3];exact Sw _
   rw[Vr rfl,Vr h3];rw[Zl4];simp only[go_sem,simprocAttr,f65,Zc,b,bne,Yh,Vd,d]
   done
  have d:((l.length:Int)==(t.cols.length:Int))=false:=by rw[VR];omega
  rw[Vr rfl,Vm h3];rw[Zl4];simp only[go_sem,simprocAttr,f65,Zc,b,bne,Yh,Vd,d]
  done
 have d:(e==0)=false:=by simpa using h0
 rw[Zl4];simp only[go_sem,simprocAttr,f65,Zc,b,bne,d,h0]
 done
noncomputable def ZjX(x:List Tbl)(t:Tbl)(col:Col)(k:Int):Int :=
 if(!Zej col.kd k||(col.kd==k||(col.df.k != 0&&(QU col.df k).k==0)))=true then 8
 else if(inF t col.nm||(t.key.contains col.nm&&x.any fun u=>u.fgn.any fun f=>f.tb==t.nm))=true then 11 else 0
theorem ZoS(x:List Tbl)(hx:FitX x)(t:Tbl)(ht:FitT t)(col:Col)(k:Int):R K (.call 134 [ZX x,Yk t,.agg (Zh col),I k] [])=some (I (ZjX x t col k),[]):=by
 have q:=Zms t ht col.nm;have h2:=ZjR col.kd k;have h3:=Znl col.df.k col.df.n col.df.s k;rw[Val.eta,Zn8]at h3;have p:=ZhI x hx t.nm true;simp only[VW,UC]at p;unfold ZjX;generalize Zej col.kd k=C at *;generalize QU col.df k=v at *;generalize inF t col.nm=r at *;generalize t.key.contains col.nm=w at *;generalize(x.any fun u=>u.fgn.any fun f=>f.tb==t.nm)=a4 at *;generalize b:(col.kd==k)=E at *;generalize d:(col.df.k==0)=F at *;generalize l:(v.k==0)=G at *;simp only[Yk,Zc,ZX,enc]at q h2 h3 p;cases C
 ·rw[WM];simp only[go_sem,simprocAttr,f134,Zc,Zh,q,h2,h3,p]
 cases E
 ·cases F
  ·cases G
   ·cases r
    ·cases w
     ·rw[WM];simp only[go_sem,simprocAttr,f134,Zc,Zh,q,h2,h3,p,b,d,l,bne]
     cases a4
     ·rw[WM];simp only[go_sem,simprocAttr,f134,Zc,Zh,q,h2,h3,p,b,d,l,bne]
     rw[WM];simp only[go_sem,simprocAttr,f134,Zc,Zh,q,h2,h3,p,b,d,l,bne]
    rw[WM];simp only[go_sem,simprocAttr,f134,Zc,Zh,q,h2,h3,p,b,d,l,bne]
   rw[WM];simp only[go_sem,simprocAttr,f134,Zc,Zh,q,h2,h3,p,b,d,l,bne]
  cases r
  ·cases w
   ·rw[WM];simp only[go_sem,simprocAttr,f134,Zc,Zh,q,h2,h3,p,b,d,l,bne]
   cases a4
   ·rw[WM];simp only[go_sem,simprocAttr,f134,Zc,Zh,q,h2,h3,p,b,d,l,bne]
   rw[WM];simp only[go_sem,simprocAttr,f134,Zc,Zh,q,h2,h3,p,b,d,l,bne]
  rw[WM];simp only[go_sem,simprocAttr,f134,Zc,Zh,q,h2,h3,p,b,d,l,bne]
 rw[WM];simp only[go_sem,simprocAttr,f134,Zc,Zh,q,h2,h3,p,b,d,l,bne]
noncomputable def ZlP(x:List Tbl)(t:Tbl)(c:Chg)(col:Col):Int :=
 if c.kd=5 then(if Zkj t c.nm=true then 11 else 0)
 else if c.kd=6 then(if Xw c.nm2=false then 5 else if 0≤ixN c.nm2 (t.cols.map (·.nm)) 0 then 6 else 0)
 else if c.kd=7 then ZjX x t col c.col.kd
 else if c.kd=8 then(if t.key.contains c.nm=true then 11 else if col.nl=true then 17 else 0)
 else if c.kd=9 then(if col.nl=false then 17 else QA col.kd c.col.df)
 else QA col.kd c.col.df
section
variable{x:List Tbl}{t:Tbl}{c:Chg}
theorem ZwL(ht:FitT t)(h0:ixN c.nm (t.cols.map (·.nm)) 0<0):R K (.call 66 [ZX x,Yk t,.agg (Zb c)] [])=some (I 5,[]):=by
 have b:=Y9 t c.nm ht.cols;generalize ixN c.nm (t.cols.map (·.nm)) 0=m at *;simp only[Yk,Zc]at b;rw[Xn];simp only[go_sem,simprocAttr,f66,Zc,Zb,b,h0]
 done
set_option maxHeartbeats 4000000 in
theorem ZCF(hx:FitX x)(ht:FitT t)(q:c.nm2.length≤100000000){j:Nat}{col:Col}(h0:ixN c.nm (t.cols.map (·.nm)) 0=(j:Int))(hj:t.cols[j]?=some col)(hk:c.kd=5∨c.kd=6∨c.kd=7∨c.kd=8∨c.kd=9∨c.kd=10):R K (.call 66 [ZX x,Yk t,.agg (Zb c)] [])=some (I (ZlP x t c col),[]):=by
 have b:=Y9 t c.nm ht.cols;rw[h0]at b;have h2:=Zms t ht c.nm;have h3:=Zhd c.nm2 q;have r:=Y9 t c.nm2 ht.cols;have u:=ZoS x hx t ht col c.col.kd;have l:=Ze4 col.kd c.col.df.k c.col.df.n c.col.df.s;rw[Val.eta]at l;have f:=Ym hj;have d:¬(j:Int)<0:=by omega
 unfold ZlP Zkj;generalize ZjX x t col c.col.kd=F at *;generalize QA col.kd c.col.df=G at *;generalize ixN c.nm2 (t.cols.map (·.nm)) 0=m at *;generalize t.key.contains c.nm=v at *;generalize inF t c.nm=w at *;generalize inI t c.nm=C at *;generalize Xw c.nm2=E at *;simp only[Yk,Zc,ZX,Zh]at b h2 h3 r u l f;rcases hk with hk|hk|hk|hk|hk|hk
 ·rw[Vr hk];cases v<;>cases w<;>cases C
  ·rw[Xn];simp only[go_sem,simprocAttr,f66,Zc,Zb,hk,b,h2,d,f]
  ·rw[Xn];simp only[go_sem,simprocAttr,f66,Zc,Zb,hk,b,h2,d,f]
  ·rw[Xn];simp only[go_sem,simprocAttr,f66,Zc,Zb,hk,b,h2,d,f]
  ·rw[Xn];simp only[go_sem,simprocAttr,f66,Zc,Zb,hk,b,h2,d,f]
  ·rw[Xn];simp only[go_sem,simprocAttr,f66,Zc,Zb,hk,b,h2,d,f]
  ·rw[Xn];simp only[go_sem,simprocAttr,f66,Zc,Zb,hk,b,h2,d,f]
  ·rw[Xn];simp only[go_sem,simprocAttr,f66,Zc,Zb,hk,b,h2,d,f]
  rw[Xn];simp only[go_sem,simprocAttr,f66,Zc,Zb,hk,b,h2,d,f]
 ·rw[Vm (by omega),Vr hk];cases E
  ·rw[Vr rfl];rw[Xn];simp only[go_sem,simprocAttr,f66,Zc,Zb,hk,b,h2,h3,d,f]
  rw[Vm (by simp)];by_cases p:0≤m
  ·rw[Vr p];rw[Xn];simp only[go_sem,simprocAttr,f66,Zc,Zb,hk,b,h2,h3,r,p,d,f]
  rw[Vm p];rw[Xn];simp only[go_sem,simprocAttr,f66,Zc,Zb,hk,b,h2,h3,r,p,d,f]
 ·rw[Vm (by omega),Vm (by omega),Vr hk];rw[Xn];simp only[go_sem,simprocAttr,f66,Zc,Zb,Zh,hk,b,h2,u,d,f]
 ·rw[Vm (by omega),Vm (by omega),Vm (by omega),Vr hk];cases v
  ·cases hn:col.nl
   ·rw[Xn];simp only[go_sem,simprocAttr,f66,Zc,Zb,hk,b,h2,d,f,hn]
   rw[Xn];simp only[go_sem,simprocAttr,f66,Zc,Zb,hk,b,h2,d,f,hn]
  rw[Xn];simp only[go_sem,simprocAttr,f66,Zc,Zb,hk,b,h2,d,f]
 ·rw[Vm (by omega),Vm (by omega),Vm (by omega),Vm (by omega),Vr hk];cases hn:col.nl
  ·rw[Xn];simp only[go_sem,simprocAttr,f66,Zc,Zb,hk,b,h2,d,f,hn]
  rw[Xn];simp only[go_sem,simprocAttr,f66,Zc,Zb,hk,b,h2,l,d,f,hn]
 rw[Vm (by omega),Vm (by omega),Vm (by omega),Vm (by omega),Vm (by omega)];rw[Xn];simp only[go_sem,simprocAttr,f66,Zc,Zb,hk,b,h2,l,d,f]
end
def sqC:Nat→Code→Code
 |0,c=>c
 |n+1,.seq _ b=>sqC n b
 |_,c=>c
abbrev zs(l:List Int):List (List AV):=l.map fun n=>[I n]
theorem ZzL(n:Int)(l:List Int)(hl:l.length≤1000000)(ks:List It):∀(q j:Nat) (i:Int) (f:Code),YP f124 0 f→i=(j:Int)→l.length=j+q →
  RL K (.run 124 0 (.code f::.lp f (some ([0,1,7,8],[])) 0::.blk 0 0::ks) [(0,.rows (zs l)),(1,I n),(7,I (l.length:Int)),(8,I i)] []) =
  if ixA (fun c=>n==c) (l.drop j) j=-1 then R K (.run 124 0 ks [] [])else some (I (ixA (fun c=>n==c) (l.drop j) j),[])
 |0,j,i,f,b,hi,u=>by
  subst hi;have d:¬(j:Int)<(l.length:Int):=by omega
  rw[V2 (by omega),show ixA (fun c=>n==c) [] j=-1 from rfl,Vr rfl];simp only[go_sem,simprocAttr,f124]at b;subst b;rw[Ze];simp only[go_sem,simprocAttr,d]
 |q+1,j,i,f,b,hi,u=>by
  subst hi;have p:=b;have d:(j:Int)<(l.length:Int):=by omega
  have v:Zx .i64 ((j:Int)+1)=((j+1:Nat):Int):=ZQ (n:=l.length) (by omega) (by omega);obtain⟨c,k⟩:=Zu (l:=l) (i:=j) (by omega);have s:at? (zs l) (j:Int)=some [I c]:=ZW (by simp[k]);have w:=ZzL n l hl ks q (j+1) _ f p rfl (by omega);rw[Y8 k];by_cases hk:(n==c)=true
  ·have r:ixA (fun c=>n==c) (c::l.drop (j+1)) j=(j:Int):=by simp only[ixA];rw[Vr hk]
   rw[r,Vm (by omega)];simp only[go_sem,simprocAttr,f124]at b;subst b;rw[Ze];simp only[go_sem,simprocAttr,d,s,hk]
  have r:ixA (fun c=>n==c) (c::l.drop (j+1)) j=ixA (fun c=>n==c) (l.drop (j+1)) (j+1):=by conv=>lhs;simp only[ixA];rw[Vm hk]
  have C:(n==c)=false:=Uk.2 hk;rw[r];simp only[go_sem,simprocAttr,f124]at b;subst b;rw[Ze];simp only[go_sem,simprocAttr,d,v,s,C];rw[w]
theorem Zov(n:Int)(l:List Int)(hl:l.length≤1000000):R K (.call 58 [.rows (zs l),I n] [])=some (.bool (l.contains n),[]):=by
 have b:=fun ks B d=>ZzL n l hl ks l.length 0 0 B d rfl (by omega);simp only[Ui]at b;have hi:R K (.call 124 [.rows (zs l),I n] [])=some (I (ixA (fun c=>n==c) l 0),[]):=by
  rw[Ztf];simp only[go_sem,simprocAttr,f124,Vd];rw[b _ _ ?_]
  ·split
   ·rename_i h0;rw[h0];simp only[go_sem,simprocAttr]
   rfl
  rfl
 have e:=Zdx (fun c=>n==c) l 0;rw[←List.contains_eq_any_beq]at e;rw[Zyg];simp only[go_sem,simprocAttr,f58,hi,e]
theorem ZEu(l:List Int)(hl:l.length≤1000000)(k:Int):R K (.call 57 [.rows (zs l),.ptr 0 0] [.cells [I k]])=some (.bool (l.contains k),[.cells [I k]]):=by have b:=Zov k l hl;rw[Zy6];simp only[go_sem,simprocAttr,f57,b]
theorem ZjK(c:Col)(k d:Bool):R K (.call 59 [.agg (Zh c),.bool k,.bool d] [])=some (.bool (Zcp c k d),[]):=by
 cases k<;>cases d
 ·rw[Zhc];simp only[go_sem,simprocAttr,f59,Zh];simp[Zcp]
 ·rw[Zhc];simp only[go_sem,simprocAttr,f59,Zh];simp[Zcp]
 ·rw[Zhc];simp only[go_sem,simprocAttr,f59,Zh];simp[Zcp]
 rw[Zhc];simp only[go_sem,simprocAttr,f59,Zh];simp[Zcp]
theorem ZyA(c:Chg)(hs:SmC c):R K (.call 29 [.agg (Zb c)] [])=R K (.run 29 0 [.code (sqC 4 (f29.body.getD .skip))] [(1,.ptr 0 0),(2,get [] 2),(3,.ptr 1 0),(4,.fn 57 [.ptr 1 0]),(5,.bool (c.tb==[]||c.kd != 1))] [.cells (Zb c),.cells [I c.kd]]):=by
 generalize b:sqC 4 (f29.body.getD .skip)=T;simp only[f29,sqC,VP]at b;rw[Zzp];simp only[f29,VP];rw[b];cases d:(c.tb==[])
 ·simp only[go_sem,simprocAttr,Zb,d,bne]
 simp only[go_sem,simprocAttr,Zb,d,bne]
theorem Zyj(c:Chg)(hs:SmC c)(b:Bool):R K (.run 29 0 [.code (sqC 4 (f29.body.getD .skip))] [(1,.ptr 0 0),(2,get [] 2),(3,.ptr 1 0),(4,.fn 57 [.ptr 1 0]),(5,.bool b)] [.cells (Zb c),.cells [I c.kd]])=R K (.run 29 0 [.code (sqC 5 (f29.body.getD .skip))] [(1,.ptr 0 0),(2,get [] 2),(3,.ptr 1 0),(4,get [] 4),(5,.bool b),(6,.bool (c.nm==[]||[3,5,6,7,8,9,10,12,14].contains c.kd))] [.cells (Zb c),.cells [I c.kd]]):=by
 generalize d:sqC 5 (f29.body.getD .skip)=T;simp only[f29,sqC,VP]at d;simp only[f29,sqC,VP];rw[d];have hi:=ZEu [3,5,6,7,8,9,10,12,14] (by simp) c.kd;simp only[zs,Vz,VO]at hi;generalize k:[3,5,6,7,8,9,10,12,14].contains c.kd=w at *;cases f:(c.nm==[])
 ·simp only[go_sem,simprocAttr,Zb,f,hi]
 simp only[go_sem,simprocAttr,Zb,f]
theorem Zyz(c:Chg)(hs:SmC c)(b d:Bool):R K (.run 29 0 [.code (sqC 5 (f29.body.getD .skip))] [(1,.ptr 0 0),(2,get [] 2),(3,.ptr 1 0),(4,get [] 4),(5,.bool b),(6,.bool d)] [.cells (Zb c),.cells [I c.kd]])=R K (.run 29 0 [.code (sqC 6 (f29.body.getD .skip))] [(1,.ptr 0 0),(2,get [] 2),(3,.ptr 1 0),(4,get [] 4),(5,.bool b),(6,.bool d),(7,.bool (c.nm2==[]||c.kd==6))] [.cells (Zb c),.cells [I c.kd]]):=by
 generalize f:sqC 6 (f29.body.getD .skip)=T;simp only[f29,sqC,VP]at f;simp only[f29,sqC,VP];rw[f];cases k:(c.nm2==[])
 ·simp only[go_sem,simprocAttr,Zb,k]
 simp only[go_sem,simprocAttr,Zb,k]
theorem Zyl(c:Chg)(hs:SmC c)(k l p:Bool):R K (.run 29 0 [.code (sqC 6 (f29.body.getD .skip))] [(1,.ptr 0 0),(2,get [] 2),(3,.ptr 1 0),(4,get [] 4),(5,.bool k),(6,.bool l),(7,.bool p)] [.cells (Zb c),.cells [I c.kd]])=R K (.run 29 0 [.code (sqC 7 (f29.body.getD .skip))] [(1,.ptr 0 0),(2,get [] 2),(3,.ptr 1 0),(4,get [] 4),(5,.bool k),(6,.bool l),(7,.bool p),(8,.bool (Zss c))] [.cells (Zb c),.cells [I c.kd]]):=by
 generalize q:sqC 7 (f29.body.getD .skip)=T;simp only[f29,sqC,VP]at q;simp only[f29,sqC,VP];rw[q];have b:=ZjK c.col (c.kd==7) (c.kd==9||c.kd==10);unfold Zss;generalize r:Zcp c.col (c.kd==7) (c.kd==9||c.kd==10)=w at *;simp only[Zh]at b;cases f:(c.kd==4)
 ·cases d:(c.kd==9)
  ·simp only[d,UM]at b;simp only[go_sem,simprocAttr,Zb,f,d,b]
  simp only[d,VW]at b;simp only[go_sem,simprocAttr,Zb,f,d,b]
 simp only[go_sem,simprocAttr,Zb,f]
theorem Zzr(c:Chg)(hs:SmC c)(f k l p:Bool):R K (.run 29 0 [.code (sqC 7 (f29.body.getD .skip))] [(1,.ptr 0 0),(2,get [] 2),(3,.ptr 1 0),(4,get [] 4),(5,.bool f),(6,.bool k),(7,.bool l),(8,.bool p)] [.cells (Zb c),.cells [I c.kd]])=R K (.run 29 0 [.code (sqC 8 (f29.body.getD .skip))] [(1,.ptr 0 0),(2,get [] 2),(3,.ptr 1 0),(4,get [] 4),(5,.bool f),(6,.bool k),(7,.bool l),(8,.bool p),(9,.bool (c.kd==11||(c.idx.nm==[]&&((c.idx.cols.length:Int)==0)&&!c.idx.uq)))] [.cells (Zb c),.cells [I c.kd]]):=by
 generalize q:sqC 8 (f29.body.getD .skip)=T;simp only[f29,sqC,VP]at q;simp only[f29,sqC,VP];rw[q];cases b:(c.kd==11)
 ·cases d:(c.idx.nm==[])
  ·simp only[go_sem,simprocAttr,Zb,b,d]
  cases r:((c.idx.cols.length:Int)==0)
  ·simp only[go_sem,simprocAttr,Zb,b,d,r,Yh]
  simp only[go_sem,simprocAttr,Zb,b,d,r,Yh]
 simp only[go_sem,simprocAttr,Zb,b]
theorem Zxy(c:Chg)(hs:SmC c)(f k l p q:Bool):R K (.run 29 0 [.code (sqC 8 (f29.body.getD .skip))] [(1,.ptr 0 0),(2,get [] 2),(3,.ptr 1 0),(4,get [] 4),(5,.bool f),(6,.bool k),(7,.bool l),(8,.bool p),(9,.bool q)] [.cells (Zb c),.cells [I c.kd]])=R K (.run 29 0 [.code (sqC 9 (f29.body.getD .skip))] [(1,.ptr 0 0),(2,get [] 2),(3,.ptr 1 0),(4,get [] 4),(5,.bool f),(6,.bool k),(7,.bool l),(8,.bool p),(9,.bool q),(10,.bool (c.kd==13||(c.fgn.nm==[]&&c.fgn.tb==[]&&((c.fgn.cols.length:Int)==0))))] [.cells (Zb c),.cells [I c.kd]]):=by
 generalize r:sqC 9 (f29.body.getD .skip)=T;simp only[f29,sqC,VP]at r;simp only[f29,sqC,VP];rw[r];cases b:(c.kd==13)
 ·cases d:(c.fgn.nm==[])
  ·simp only[go_sem,simprocAttr,Zb,b,d]
  cases s:(c.fgn.tb==[])
  ·simp only[go_sem,simprocAttr,Zb,b,d,s]
  simp only[go_sem,simprocAttr,Zb,b,d,s,Yh]
 simp only[go_sem,simprocAttr,Zb,b]
theorem Zzm(c:Chg)(hs:SmC c)(d f k l p b:Bool):R K (.run 29 0 [.code (sqC 9 (f29.body.getD .skip))] [(1,.ptr 0 0),(2,get [] 2),(3,.ptr 1 0),(4,get [] 4),(5,.bool d),(6,.bool f),(7,.bool k),(8,.bool l),(9,.bool p),(10,.bool b)] [.cells (Zb c),.cells [I c.kd]])=R K (.run 29 0 [.code (sqC 10 (f29.body.getD .skip))] [(1,.ptr 0 0),(2,get [] 2),(3,.ptr 1 0),(4,get [] 4),(5,.bool d),(6,.bool f),(7,.bool k),(8,.bool l),(9,.bool p),(10,.bool b),(11,.ptr 2 0)] [.cells (Zb c),.cells [I c.kd],.cells (Zc c.new)]):=by generalize q:sqC 10 (f29.body.getD .skip)=T;simp only[f29,sqC,VP]at q;simp only[f29,sqC,VP];rw[q];simp only[go_sem,simprocAttr,Zb,Zc]
theorem ZvL(c:Chg)(hs:SmC c)(k l p q r b:Bool):R K (.run 29 0 [.code (sqC 10 (f29.body.getD .skip))] [(1,.ptr 0 0),(2,get [] 2),(3,.ptr 1 0),(4,get [] 4),(5,.bool k),(6,.bool l),(7,.bool p),(8,.bool q),(9,.bool r),(10,.bool b),(11,.ptr 2 0)] [.cells (Zb c),.cells [I c.kd],.cells (Zc c.new)])=R K (.run 29 0 [.code (sqC 11 (f29.body.getD .skip))] [(1,.ptr 0 0),(2,get [] 2),(3,.ptr 1 0),(4,get [] 4),(5,.bool k),(6,.bool l),(7,.bool p),(8,.bool q),(9,.bool r),(10,.bool b),(11,get [] 11),(12,.bool (c.kd==1||ZgC c.new))] [.cells (Zb c),.cells [I c.kd],.cells (Zc c.new)]):=by
 generalize s:sqC 11 (f29.body.getD .skip)=T;simp only[f29,sqC,VP]at s;simp only[f29,sqC,VP];rw[s];have w1:Zx .i64 ((c.new.cols.length:Int)+(c.new.key.length:Int))=(c.new.cols.length:Int)+(c.new.key.length:Int):=Zq (by omega) (by have:=hs.nc;have:=hs.nk;omega);have w2:Zx .i64 ((c.new.cols.length:Int)+(c.new.key.length:Int)+(c.new.fgn.length:Int))=(c.new.cols.length:Int)+(c.new.key.length:Int)+(c.new.fgn.length:Int):=Zq (by omega) (by have:=hs.nc;have:=hs.nk;have:=hs.nf;omega);have u:Zx .i64 ((c.new.cols.length:Int)+(c.new.key.length:Int)+(c.new.fgn.length:Int)+(c.new.idx.length:Int))=(c.new.cols.length:Int)+(c.new.key.length:Int)+(c.new.fgn.length:Int)+(c.new.idx.length:Int):=Zq (by omega) (by have:=hs.nc;have:=hs.nk;have:=hs.nf;have:=hs.ni;omega);cases f:(c.kd==1)
 ·cases d:(c.new.nm==[])
  ·simp only[go_sem,simprocAttr,Zb,Zc,f,d];simp[d,ZgC]
  simp only[go_sem,simprocAttr,Zb,Zc,f,d,Vd,w1,w2,u];simp[d,ZgC]
 simp only[go_sem,simprocAttr,Zb,Zc,f]
theorem Zt5(c:Chg)(f k l p q b d:Bool):R K (.run 29 0 [.code (sqC 11 (f29.body.getD .skip))] [(1,.ptr 0 0),(2,get [] 2),(3,.ptr 1 0),(4,get [] 4),(5,.bool f),(6,.bool k),(7,.bool l),(8,.bool p),(9,.bool q),(10,.bool b),(11,get [] 11),(12,.bool d)] [.cells (Zb c),.cells [I c.kd],.cells (Zc c.new)])=some (.bool (f&&k&&l&&p&&q&&b&&d&&(((c.cls.length:Int)==0)||c.kd==15)),[]):=by
 simp only[f29,sqC,VP];cases f
 ·simp only[go_sem,simprocAttr,Zb,Zc]
 skip
 cases k
 ·simp only[go_sem,simprocAttr,Zb,Zc]
 skip
 cases l
 ·simp only[go_sem,simprocAttr,Zb,Zc]
 skip
 cases p
 ·simp only[go_sem,simprocAttr,Zb,Zc]
 skip
 cases q
 ·simp only[go_sem,simprocAttr,Zb,Zc]
 skip
 cases b
 ·simp only[go_sem,simprocAttr,Zb,Zc]
 skip
 cases d
 ·simp only[go_sem,simprocAttr,Zb,Zc]
 skip
 cases r:((c.cls.length:Int)==0)
 ·simp only[go_sem,simprocAttr,Zb,Zc,r,Yh]
 simp only[go_sem,simprocAttr,Zb,Zc,r,Yh]
theorem JZ(c:Chg)(hs:SmC c):R K (.call 29 [.agg (Zb c)] [])=some (.bool (ZgW c),[]):=by rw[ZyA c hs,Zyj c hs,Zyz c hs,Zyl c hs,Zzr c hs,Zxy c hs,Zzm c hs,ZvL c hs,Zt5];rfl
noncomputable def Wz(x:List Tbl)(t:Tbl)(c:Chg):Int :=
 if c.kd=2 then(if(x.any fun u=>(false||!(u.nm==t.nm))&&u.fgn.any fun f=>f.tb==t.nm)=true then 11 else 0)
 else if c.kd=3 then(if Xw c.nm=false then 5 else if 0≤ixN c.nm (x.map (·.nm)) 0 then 6 else 0)
 else if c.kd=4 then(if 0≤ixN c.col.nm (t.cols.map (·.nm)) 0 then 6 else if c.col.nl=false∧c.col.df.k=0 then 9 else 0)
 else if c.kd=11 then(if(t.idx.any fun i=>i.nm==c.idx.nm)=true then 6 else 0)
 else if c.kd=12 then(if(t.idx.any fun i=>i.nm==c.nm)=false then 5 else 0)
 else if c.kd=13 then(if(t.fgn.any fun i=>i.nm==c.fgn.nm)=true then 6 else 0)
 else if c.kd=14 then(if(t.fgn.any fun i=>i.nm==c.nm)=false then 5 else 0)
 else Zja t c.cls
theorem ZAx(hx:x.length≤1000000)(hk:c.kd=1):R K (.call 30 [ZX x,.agg (Zb c)] [])=some (I (if 0≤ixN c.new.nm (x.map (·.nm)) 0 then 6 else 0),[]):=by
 have d:=YT x c.new.nm hx;generalize ixN c.new.nm (x.map (·.nm)) 0=m at *;unfold ZX at d ⊢;by_cases b:0≤m
 ·rw[Vr b];rw[YO];simp only[go_sem,simprocAttr,f30,Zb,hk,d,b]
  done
 rw[Vm b];rw[YO];simp only[go_sem,simprocAttr,f30,Zb,hk,d,b]
 done
section
variable{x:List Tbl}{t:Tbl}{c:Chg}{m:Nat}
theorem ZBF(hx:FitX x)(h0:ixN c.tb (x.map (·.nm)) 0=(m:Int))(l:x[m]?=some t)(hk:c.kd=2):R K (.call 30 [ZX x,.agg (Zb c)] [])=some (I (Wz x t c),[]):=by
 have d:=YT x c.tb hx.len;rw[h0]at d;have h2:=ZhI x hx t.nm false;have k:=YF l;unfold Wz;rw[Vr hk];generalize(x.any fun u=>(false||!(u.nm==t.nm))&&u.fgn.any fun f=>f.tb==t.nm)=b at *;have h3:=Qg b 11;simp only[ZX,Zc]at d h2 k ⊢;rw[YO];simp only[go_sem,simprocAttr,f30,Zc,Zb,hk,d,h2,h3,k]
 done
theorem ZA3(hx:FitX x)(hn:c.nm.length≤100000000)(h0:ixN c.tb (x.map (·.nm)) 0=(m:Int))(p:x[m]?=some t)(hk:c.kd=3):R K (.call 30 [ZX x,.agg (Zb c)] [])=some (I (Wz x t c),[]):=by
 have f:=YT x c.tb hx.len;rw[h0]at f;have h2:=YT x c.nm hx.len;have l:=Zhd c.nm hn;have k:=YF p;unfold Wz;rw[Vm (by omega),Vr hk];generalize ixN c.nm (x.map (·.nm)) 0=e at *;generalize Xw c.nm=b at *;have h3:=Qg (decide (0≤e)) 6;simp only[ZX,Zc]at f h2 k ⊢;cases b
 ·rw[YO];simp only[go_sem,simprocAttr,f30,Zc,Zb,hk,f,h2,h3,l,k]
 by_cases d:0≤e
 ·rw[Pk d]at h3;rw[Vm (by simp),Vr d];rw[YO];simp only[go_sem,simprocAttr,f30,Zc,Zb,hk,f,h2,h3,l,d,k]
  done
 rw[Pf d]at h3;rw[Vm (by simp),Vm d];rw[YO];simp only[go_sem,simprocAttr,f30,Zc,Zb,hk,f,h2,h3,l,d,k]
 done
theorem ZAn(hx:FitX x)(ht:FitT t)(h0:ixN c.tb (x.map (·.nm)) 0=(m:Int))(r:x[m]?=some t)(hk:c.kd=4):R K (.call 30 [ZX x,.agg (Zb c)] [])=some (I (Wz x t c),[]):=by
 have b:=YT x c.tb hx.len;rw[h0]at b;have h2:=Y9 t c.col.nm ht.cols;have l:=YF r;have h3:=Qg true 9;have p:=Qg false 9;unfold Wz;rw[Vm (by omega),Vm (by omega),Vr hk];generalize ixN c.col.nm (t.cols.map (·.nm)) 0=e at *;simp only[ZX,Zc,Yk]at b h2 l ⊢;by_cases f:0≤e
 ·rw[Vr f];rw[YO];simp only[go_sem,simprocAttr,f30,Zc,Zb,hk,b,h2,h3,p,f,l]
  done
 rw[Vm f];cases hn:c.col.nl
 ·by_cases q:c.col.df.k=0
  ·rw[Vr ⟨rfl,q⟩];rw[YO];simp only[go_sem,simprocAttr,f30,Zc,Zb,hk,b,h2,h3,p,f,l,hn,q]
   done
  have d:(c.col.df.k==0)=false:=by simpa using q
  rw[Vm fun e=>q e.2];rw[YO];simp only[go_sem,simprocAttr,f30,Zc,Zb,hk,b,h2,h3,p,f,l,hn,d]
  done
 rw[Vm fun e=>Bool.noConfusion e.1];rw[YO];simp only[go_sem,simprocAttr,f30,Zc,Zb,hk,b,h2,h3,p,f,l,hn]
 done
theorem Zys(hx:FitX x)(ht:FitT t)(h0:ixN c.tb (x.map (·.nm)) 0=(m:Int))(l:x[m]?=some t)(hk:c.kd=11):R K (.call 30 [ZX x,.agg (Zb c)] [])=some (I (Wz x t c),[]):=by
 have d:=YT x c.tb hx.len;rw[h0]at d;have h2:=ZhQ t c.idx.nm ht.idx;have f:=YF l;unfold Wz;rw[Vm (by omega),Vm (by omega),Vm (by omega),Vr hk];generalize(t.idx.any fun i=>i.nm==c.idx.nm)=b at *;simp only[ZX,Zc,Yk]at d h2 f ⊢;have h3:=Qg true 6;have k:=Qg false 6;cases b
 ·rw[YO];simp only[go_sem,simprocAttr,f30,Zc,Zb,hk,d,h2,h3,k,f]
  done
 rw[YO];simp only[go_sem,simprocAttr,f30,Zc,Zb,hk,d,h2,h3,k,f]
 done
theorem ZyT(hx:FitX x)(ht:FitT t)(h0:ixN c.tb (x.map (·.nm)) 0=(m:Int))(l:x[m]?=some t)(hk:c.kd=12):R K (.call 30 [ZX x,.agg (Zb c)] [])=some (I (Wz x t c),[]):=by
 have d:=YT x c.tb hx.len;rw[h0]at d;have h2:=ZhQ t c.nm ht.idx;have f:=YF l;unfold Wz;rw[Vm (by omega),Vm (by omega),Vm (by omega),Vm (by omega),Vr hk];generalize(t.idx.any fun i=>i.nm==c.nm)=b at *;simp only[ZX,Zc,Yk]at d h2 f ⊢;have h3:=Qg true 5;have k:=Qg false 5;cases b
 ·rw[YO];simp only[go_sem,simprocAttr,f30,Zc,Zb,hk,d,h2,h3,k,f]
  done
 rw[YO];simp only[go_sem,simprocAttr,f30,Zc,Zb,hk,d,h2,h3,k,f]
 done
theorem Zxq(hx:FitX x)(ht:FitT t)(h0:ixN c.tb (x.map (·.nm)) 0=(m:Int))(l:x[m]?=some t)(hk:c.kd=13):R K (.call 30 [ZX x,.agg (Zb c)] [])=some (I (Wz x t c),[]):=by
 have d:=YT x c.tb hx.len;rw[h0]at d;have h2:=ZeS t c.fgn.nm ht.fgn;have f:=YF l;unfold Wz;rw[Vm (by omega),Vm (by omega),Vm (by omega),Vm (by omega),Vm (by omega),Vr hk];generalize(t.fgn.any fun i=>i.nm==c.fgn.nm)=b at *;simp only[ZX,Zc,Yk]at d h2 f ⊢;have h3:=Qg true 6;have k:=Qg false 6;cases b
 ·rw[YO];simp only[go_sem,simprocAttr,f30,Zc,Zb,hk,d,h2,h3,k,f]
  done
 rw[YO];simp only[go_sem,simprocAttr,f30,Zc,Zb,hk,d,h2,h3,k,f]
 done
theorem Zzh(hx:FitX x)(ht:FitT t)(h0:ixN c.tb (x.map (·.nm)) 0=(m:Int))(l:x[m]?=some t)(hk:c.kd=14):R K (.call 30 [ZX x,.agg (Zb c)] [])=some (I (Wz x t c),[]):=by
 have d:=YT x c.tb hx.len;rw[h0]at d;have h2:=ZeS t c.nm ht.fgn;have f:=YF l;unfold Wz;rw[Vm (by omega),Vm (by omega),Vm (by omega),Vm (by omega),Vm (by omega),Vm (by omega),Vr hk];generalize(t.fgn.any fun i=>i.nm==c.nm)=b at *;simp only[ZX,Zc,Yk]at d h2 f ⊢;have h3:=Qg true 5;have k:=Qg false 5;cases b
 ·rw[YO];simp only[go_sem,simprocAttr,f30,Zc,Zb,hk,d,h2,h3,k,f]
  done
 rw[YO];simp only[go_sem,simprocAttr,f30,Zc,Zb,hk,d,h2,h3,k,f]
 done
theorem ZxN(hx:FitX x)(ht:FitT t)(hl:c.cls.length≤1000000)(h0:ixN c.tb (x.map (·.nm)) 0=(m:Int))(f:x[m]?=some t)(hk:c.kd=15):R K (.call 30 [ZX x,.agg (Zb c)] [])=some (I (Wz x t c),[]):=by
 have b:=YT x c.tb hx.len;rw[h0]at b;have h2:=Zmn t ht c.cls hl;have d:=YF f;unfold Wz;rw[Vm (by omega),Vm (by omega),Vm (by omega),Vm (by omega),Vm (by omega),Vm (by omega),Vm (by omega)];simp only[ZX,Zc,Yk]at b h2 d ⊢;rw[YO];simp only[go_sem,simprocAttr,f30,Zc,Zb,hk,b,h2,d]
 done
theorem ZnP(hx:FitX x)(e:Int)(h0:ixN c.tb (x.map (·.nm)) 0=(m:Int))(f:x[m]?=some t)(hk:c.kd=5∨c.kd=6∨c.kd=7∨c.kd=8∨c.kd=9∨c.kd=10)
  (h2:R K (.call 66 [ZX x,Yk t,.agg (Zb c)] [])=some (I e,[])):R K (.call 30 [ZX x,.agg (Zb c)] [])=some (I e,[]):=by
 have b:=YT x c.tb hx.len;rw[h0]at b;have d:=YF f;simp only[ZX,Zc,Yk]at b h2 d ⊢;rcases hk with hk|hk|hk|hk|hk|hk
 ·simp only[Zb,hk]at h2;rw[YO];simp only[go_sem,simprocAttr,f30,Zc,Zb,hk,b,h2,d]
  done
 ·simp only[Zb,hk]at h2;rw[YO];simp only[go_sem,simprocAttr,f30,Zc,Zb,hk,b,h2,d]
  done
 ·simp only[Zb,hk]at h2;rw[YO];simp only[go_sem,simprocAttr,f30,Zc,Zb,hk,b,h2,d]
  done
 ·simp only[Zb,hk]at h2;rw[YO];simp only[go_sem,simprocAttr,f30,Zc,Zb,hk,b,h2,d]
  done
 ·simp only[Zb,hk]at h2;rw[YO];simp only[go_sem,simprocAttr,f30,Zc,Zb,hk,b,h2,d]
  done
 simp only[Zb,hk]at h2;rw[YO];simp only[go_sem,simprocAttr,f30,Zc,Zb,hk,b,h2,d]
 done
end
attribute [-go_sem] Zy Zs ZH Z1 ZL Yd Z0 ZN
theorem WL.app{h:Za}{z l:Nat}(s:WL h z a l rs D)(t:Za):WL (h++t) z a l rs D:=s.frame (by rw[gL s.at',s.at'])
theorem WL.pur{h:Za}{z l:Nat}(s:WL h z a l rs D):ZI h a=none:=by
 rcases s.is' with⟨rfl,rfl⟩|rfl
 ·have:=s.at';rw[Vv]at this;exact Zb0 this
 simp[ZI]
theorem Zz1{a:AV}{l N:Nat}{D:List (List AV)}:∀(q j:Nat) (W:List LW) (g:Za) (jj:Int),W.length=j+q→W.length≤1000→jj=(j:Int)→g.length=N→3≤N→SchW g a l W D→Zi N (Zk g)=true→(∀T∈W,T.fs.length<20∧T.is.length<20) →
  ∃g':Za,g'.length=N∧SchW g' a l (W.take j++(W.drop j).map ZaN) D∧(∀p,p∉W.flatMap LW.pl→g'[p]?=g[p]?) ∧
  ∀(ks:List It) (M:Code),YP f31 7 M→RL K (.run 31 0 (.code M::.lp M (some ([2,4,206,207,208],[])) N::.blk 7 N::ks) [(2,.ptr 0 0),(4,.ptr 2 0),(206,a),(207,I (W.length:Int)),(208,I jj)] g) =
  R K (.run 31 0 ks [(2,.ptr 0 0),(4,.ptr 2 0)] g')
 |0,j,W,g,jj,hq,hW,hj,r,h3,s,hu,P=>by
  subst hj;refine⟨g,r,?_,fun _ _=>rfl,fun ks M C=>?_⟩
  ·rw[V2 (by omega),VO,Vv,VM (by omega)];exact s
  have d:¬(j:Int)<(W.length:Int):=by omega
  have tk:g.take N=g:=VM (by omega);simp only[go_sem,simprocAttr,f31]at C;subst C;rw[Ze];simp only[go_sem,simprocAttr,d,tk]
  done
 |q+1,j,W,g,jj,hq,hW,hj,r,h3,s,hu,P=>by
  subst hj;have d:(j:Int)<(W.length:Int):=by omega
  have h7:=ZQ (i:=j) (n:=W.length) (by omega) (by omega);obtain⟨T,O⟩:=Zu (l:=W) (i:=j) (by omega);have u:=Ve O;have st:=s.hw T u;have nd:=Ztc (Vx.1 s.ap).2 u;have a1:=(VY.1 nd).2.1;have n1:=Vx.1 a1;have n2:=Vx.1 n1.2;have n3:=Vx.1 n2.2;have Q:T.lf≠T.li:=fun e=>n2.1 (by rw[e];simp);have a2:=(Vb.1 st.f.at').1;have a3:=(Vb.1 st.i.at').1;have mF:∀b∈T.fs,∀p,b.l=some p→p∈T.fs.filterMap (·.l)++T.is.filterMap (·.l):=fun b k p e=>Vg.2 (.inl (VG.2 ⟨b,k,e⟩));have mI:∀b∈T.is,∀p,b.l=some p→p∈T.fs.filterMap (·.l)++T.is.filterMap (·.l):=fun b k p e=>Vg.2 (.inr (VG.2 ⟨b,k,e⟩));have ne:∀p∈T.fs.filterMap (·.l)++T.is.filterMap (·.l),p≠T.lf∧p≠T.li:=fun p E=>⟨fun e=>n2.1 (e▸VD _ E),fun e=>n3.1 (e▸E)⟩;have S:∀x∈Zg (ZZ T),x<N:=fun x hx=>by obtain⟨b,e,_⟩:=st.at' (st.locs_pl hx);rw[←r];exact(Vb.1 e).1
  generalize F:Blk.rows 3 ((Ye (fun b=>b.f.nm) T.fs).map ZF++T.df) true=v;generalize G:Blk.rows 3 ((Ye (fun b=>b.x.nm) T.is).map ZJ++T.di) true=Y;have w:(g.set T.lf v).length=N:=by rw[Vq];exact r
  have Z:((g.set T.lf v).set T.li Y).length=N:=by rw[Vq];exact w
  have a4:∀x∈ZA v,x<N:=fun x hx=>by rw[←F,ZA,Xg,st.df.1,Vv]at hx;obtain⟨b,k,e⟩:=Zaw hx;rw[←r];exact(Vb.1 (st.fc b ((Yn _ _).mem_iff.1 k) x e)).1
  have a5:∀x∈ZA Y,x<N:=fun x hx=>by rw[←G,ZA,Xg,st.di.1,Vv]at hx;obtain⟨b,k,e⟩:=ZcU hx;rw[←r];exact(Vb.1 (st.ic b ((Yn _ _).mem_iff.1 k) x e)).1
  have u1:Zi N (Zk (g.set T.lf v))=true:=ZM hu (Zt.2 a4);have u2:Zi N (Zk ((g.set T.lf v).set T.li Y))=true:=ZM u1 (Zt.2 a5);have uA:∀{h:Za},h.length=N→Zi N (Zk h)=true→Zi (h++[Blk.cells (ZZ T)]).length (Zk (h++[Blk.cells (ZZ T)]))=true:=fun{h} hl hh=>by rw[ZR,ZV];refine VX.2 ⟨Yf hh (by simp[hl]),Zt.2 fun x hx=>?_⟩;have:=S x (by simpa[Zk,ZA]using hx);simp[hl];omega
  have i1:WL (g.set T.lf v) 3 T.ia T.li (T.is.map ZJ) T.di:=st.i.frame (Vc Q);have a6:∀b∈T.is,∀p,b.l=some p→(g.set T.lf v)[p]?=some (.rows 1 (SLs b.x.cols) true):=fun b k p e=>by rw[Vc fun e'=>(ne p (mI b k p e)).1 e'.symm];exact st.ic b k p e
  have sF:=Zwp (g:=g++[Blk.cells (ZZ T)]) (st.f.app _) st.df.1 (fun b k p e=>⟨(ne p (mF b k p e)).1,gL (st.fc b k p e) _⟩) (uA r hu) (P T u).1;have sI:=Zwf (g:=g.set T.lf v++[Blk.cells (ZZ T)]) (i1.app _) st.di.1 (fun b k p e=>⟨(ne p (mI b k p e)).2,gL (a6 b k p e) _⟩) (uA w u1) (P T u).2;rw[F,sL st.f.at']at sF;rw[G,sL i1.at']at sI;have fr:∀p,p≠T.lf→p≠T.li→((g.set T.lf v).set T.li Y)[p]?=g[p]?:=fun p e1 e2=>by rw[Vc e2.symm,Vc e1.symm]
  have sW:SchW ((g.set T.lf v).set T.li Y) a l (W.set j (ZaN T)) D:=s.put O (ZlA T) (ZwI T)
   (st.srt nd (by rw[Vc Q.symm,Vf a2,F]) (by rw[Vf (by simpa using a3),G]) fr)
   (fun p E=>fr p (fun e=>E (e▸T.mlf)) (fun e=>E (e▸T.mli)))
  have ln:(W.set j (ZaN T)).length=W.length:=Vq;obtain⟨g',p1,p2,p3,ih⟩:=Zz1 (a:=a) (l:=l) (N:=N) (D:=D) q (j+1) (W.set j (ZaN T)) _ _ (by rw[ln];omega) (by rw[ln];omega) rfl Z h3 sW u2 (fun U hU=>by
   rcases VL hU with hU|rfl
   ·exact P U hU
   simp only[ZaN,Jx];exact P T u)
  have ew:(W.set j (ZaN T)).take (j+1)++((W.set j (ZaN T)).drop (j+1)).map ZaN=W.take j++(W.drop j).map ZaN:=by have hj:=(Vb.1 O).1;rw[Y8 O,List.drop_set_of_lt (by omega),Sd,List.take_set_of_le (Vw j),Vf hj];simp
  refine⟨g',p1,by rw[←ew];exact p2,fun p E=>?_,fun ks M C=>?_⟩
  ·have pm:∀y,y∈(W.set j (ZaN T)).flatMap LW.pl↔y∈W.flatMap LW.pl:=fun y=>(Zfs LW.pl W j T (ZaN T) O (ZlA T)).mem_iff;rw[p3 p fun h=>E ((pm p).1 h)];have:∀y,y∈T.pl→y≠p:=fun y hy e=>E (e▸V1.2 ⟨T,u,hy⟩);exact fr p (fun e=>this _ T.mlf e.symm) (fun e=>this _ T.mli e.symm)
  have ih:=ih ks M C;rw[ln]at ih;have gr:(W.map ZZ)[j]?=some (ZZ T):=by rw[Vj,O];rfl
  have s1:=st.c.single;have s2:=st.f.single;have s3:=st.i.single;unfold single at s1 s2 s3;have pf:=(st.f.app [Blk.cells (ZZ T)]).pur;have pi:=(i1.app [Blk.cells (ZZ T)]).pur;have tk:=X6 Z [Blk.cells (ZZ T)];simp only[ZZ]at gr sF sI pf pi tk;rcases s.tb.is' with⟨hD,ha⟩|ha
  ·have ht:=s.tb.at';rw[hD,Vv]at ht;rw[Vd]at ha;subst ha;have ga:=ZW gr;simp only[go_sem,simprocAttr,f31]at C;subst C;rw[Ze];simp only[go_sem,simprocAttr,d,h7,r,ht,gr,ga,s1,s2,s3,pf,pi,sF,sI,tk,u2,Vd,gA0 r,sA0 r,gA0 w,Vk,Vl,Vi];rw[Vr ⟨by omega,by omega,by omega,by rw[←r];exact(Vb.1 ht).1⟩];exact ih
  have ht:=s.tb.at';have J:(W.map ZZ++D)[j]?=some (ZZ T):=by rw[Vh (by simp;omega)];exact gr
  have ga:=ZW J;have a7:(W.map ZZ++D).take (W.length-0)=W.map ZZ:=by rw[V4,Sn (by simp),VM (by simp)]
  have a0:=ZW gr;have a8:W.length≤W.length+D.length:=Nat.le_add_right _ _;rw[Vd,Vu,Vd]at ha;subst ha;simp only[ZZ]at J ga a0;simp only[go_sem,simprocAttr,f31]at C;subst C;rw[Ze];simp only[go_sem,simprocAttr,d,h7,r,ht,J,a7,a0,a8,Vu,s1,s2,s3,pf,pi,sF,sI,tk,u2,Vd,gA0 r,sA0 r,gA0 w,Vk,Vl,Vi];rw[Vr ⟨by omega,by omega,by omega,by rw[←r];exact(Vb.1 ht).1⟩];exact ih
attribute [go_sem] ZN
theorem Zgh{σ:Nat→Nat}(h:Zz rs=[]):XN σ rs=rs:=Zl0 rs fun x hx=>by rw[h]at hx;simp at hx
theorem Zbr(σ:Nat→Nat):∀rs:List (List AV),XN σ rs=rs.map (Xl σ)
 |[]=>rfl
 |r::rs=>by simp only[XN,Vz,Zbr σ rs]
theorem Lst.shift{h pre:Za}{n:Nat}(hn:pre.length=n)(s:Lst h a rs):Lst (pre++h.map (YY (ZO [] n))) (ren (ZO [] n) a) (XN (ZO [] n) rs):=by
 have g:∀{l:Nat} {b:Blk},h[l]?=some b→(pre++h.map (YY (ZO [] n)))[n+l]?=some (YY (ZO [] n) b):=fun{l b} e=>by rw[gA hn,Vj,e];rfl
 cases s with
 |rows _ d h2 =>
  rw[Zgh d];exact .rows rs d h2
 |own l z m _ wr d h2 =>
  have:=g d;simp only[YY]at this;simp only[ren,WR];exact .own _ z m _ wr this (by rw[Zbr];simpa using h2)
 |vw l z m k _ more wr d h2 h3 =>
  have:=g d;simp only[YY,Zbr,Ua]at this;simp only[ren,WR,Zbr];exact .vw _ z m k _ (more.map (Xl (ZO [] n))) wr this (by simpa using h2) (by simpa using h3)
theorem Both.ren{α:Type}{P Q:List AV→α→Prop}{σ:Nat→Nat}{xs:List α}(h:Both P rs xs)(q:∀row x,P row x→Q (Xl σ row) x):Both Q (XN σ rs) xs:=by rw[Zbr];refine⟨by rw[Vd];exact h.1,fun i a b d f=>?_⟩;rw[Vj,UT]at d;obtain⟨r,k,rfl⟩:=d;exact q r b (h.2 i r b k f)
section
variable{h pre:Za}{n:Nat}(hn:pre.length=n)
include hn
theorem Lst.shiftN{l:List (List UInt8)}(s:Lst h a (SLs l)):Lst (pre++h.map (YY (ZO [] n))) (ren (ZO [] n) a) (SLs l):=by
 have:=s.shift hn
 rwa [Zgh (Zv l)]at this
theorem SeenF.shift{f:Fgn}(s:SeenF h row f):SeenF (pre++h.map (YY (ZO [] n))) (Xl (ZO [] n) row) f:=by obtain⟨a,rfl,hl⟩:=s;exact⟨_,rfl,hl.shiftN hn⟩
theorem SeenI.shift{f:Idx}(s:SeenI h row f):SeenI (pre++h.map (YY (ZO [] n))) (Xl (ZO [] n) row) f:=by obtain⟨a,rfl,hl⟩:=s;exact⟨_,rfl,hl.shiftN hn⟩
theorem SeenT.shift{row:List AV}{t:Tbl}(s:SeenT h row t):SeenT (pre++h.map (YY (ZO [] n))) (Xl (ZO [] n) row) t:=by obtain⟨l,p,q,u,fr,v,rfl,b,h2,⟨h3,d⟩,f,k⟩:=s;have c:=b.shift hn;rw[Zgh (Zw t.cols)]at c;exact⟨_,_,_,_,_,_,rfl,c,h2.shiftN hn,⟨h3.shift hn,d.ren fun _ _ r=>r.shift hn⟩,f.shift hn,k.ren fun _ _ r=>r.shift hn⟩
theorem SeenX.shift{a:AV}{x:List Tbl}(s:SeenX h a x):SeenX (pre++h.map (YY (ZO [] n))) (ren (ZO [] n) a) x:=by obtain⟨rs,b,h2⟩:=s;exact⟨_,b.shift hn,h2.ren fun _ _ r=>r.shift hn⟩
end
theorem SchW.set{h:Za}{a:AV}{l p:Nat}{W:List LW}{D:List (List AV)}(s:SchW h a l W D)(f:p≠l)(k:p∉W.flatMap LW.pl)(b:Blk):SchW (h.set p b) a l W D :=
 ⟨s.tb.frame (Vc f),fun T d=>(s.hw T d).set (fun e=>k (V1.2 ⟨T,d,e⟩)) b,s.ap,s.dd⟩
def IsL(H:Za)(a:AV):Prop:=(∃l n z rs,a=.own l n∧H[l]?=some (.rows z rs true))∨∃l n m,a=.vw l n 0 m
theorem Zhh{l:Nat}{W:List LW}{S:Fr}(M:get S 2=.ptr 0 0)(O:get S 4=.ptr 2 0)(d:SchW g a l W D)(h0:g[0]?=some (.cells [a]))(hz:g[2]?=some (.cells [.nils]))(P:Zi g.length (Zk g)=true)(hW:W.length<20)(hm:∀T∈W,T.fs.length<20∧T.is.length<20)(h3:3≤g.length)
  (u:l≠0∧l≠2) (w0:0∉W.flatMap LW.pl∧2∉W.flatMap LW.pl) :
  ∃H,R K (.run 31 0 [.code (sqC 4 (f31.body.getD .skip))] S g)=some (.agg [a],H)∧SeenX H a (Y2 (W.map LW.tbl))∧IsL H a:=by
 have a0:=(Vb.1 d.tb.at').1;have Q:=ZvF d.tb d.dd (fun T s=>⟨d.hw T s,d.notl s⟩) P hW;have k:=d.sorted;generalize hB:Blk.rows 5 ((Ye (fun b=>b.nm) W).map ZZ++D) true=B at *;have v:(g.set l B).length=g.length:=Vq;have u1:Zi g.length (Zk (g.set l B))=true:=by refine ZM P (Zt.2 fun x hx=>?_);rw[←hB,ZA,Xg,d.dd,Vv]at hx;obtain⟨row,q,hx⟩:=Yy hx;obtain⟨U,hU,rfl⟩:=VE.1 q;have r:=(Yn _ _).mem_iff.1 hU;obtain⟨b,e,_⟩:=(d.hw U r).at' ((d.hw U r).locs_pl hx);exact(Vb.1 e).1
 have Y:∀{p},p∈(Ye (fun b:LW=>b.nm) W).flatMap LW.pl→p∈W.flatMap LW.pl:=fun{p} h=>((Yn (fun b:LW=>b.nm) W).flatMap_right LW.pl).mem_iff.1 h;have w:(Ye (fun b:LW=>b.nm) W).length=W.length:=Jx _ _;obtain⟨g',p1,C,Z,E⟩:=Zz1 (a:=a) (l:=l) (N:=g.length) (D:=D) W.length 0 (Ye (fun b=>b.nm) W) (g.set l B) 0 (by rw[w];omega) (by rw[w];omega) rfl v h3 k u1 (fun T s=>hm T ((Yn _ _).mem_iff.1 s));rw[w]at E;rw[Sp,Ui,Vi]at C;have F:(g.set l B)[0]?=some (.cells [a]):=by rw[Vc u.1];exact h0
 have n2:(g.set l B)[2]?=some (.cells [.nils]):=by rw[Vc u.2];exact hz
 have k0:g'[0]?=some (.cells [a]):=(Z 0 fun h=>w0.1 (Y h)).trans F;have k2:g'[2]?=some (.cells [.nils]):=(Z 2 fun h=>w0.2 (Y h)).trans n2;have kS:∀b:Blk,(g'.set 2 b)[2]?=some b:=fun b=>Vf (by omega);have fp:((Ye (fun b:LW=>b.nm) W).map ZaN).flatMap LW.pl |>.Perm (W.flatMap LW.pl):=by
  refine List.Perm.trans ?_ ((Yn (fun b:LW=>b.nm) W).flatMap_right LW.pl);generalize Ye (fun b:LW=>b.nm) W=V
  induction V with
  |nil=>exact UU _
  |cons T V ih=>exact(ZlA T).append ih
 have sE:=C.set (p:=2) u.2.symm (fun h=>w0.2 (fp.mem_iff.1 h)) (.cells [a]);refine⟨g'.set 2 (.cells [a]),?_,?_,?_⟩
 ·have ht:=d.tb.at';have G:=k.tb.at';have J:=C.tb.at';simp only[f31,sqC,VP];rcases d.tb.is' with⟨hD,f⟩|f
  ·rw[hD,Vv]at ht J G;rw[Vd]at f;subst f;simp only[go_sem,simprocAttr,M,O,h0,ht,Q,F,Vd];rw[E _ _ ?_]
   rotate_left
   ·rfl
   simp only[go_sem,simprocAttr,k0,k2,kS]
   done
  rw[Vd,Vu,Vd]at f;subst f;have a1:W.length≤W.length+D.length:=Nat.le_add_right _ _;simp only[go_sem,simprocAttr,M,O,h0,Q,F];rw[E _ _ ?_]
  rotate_left
  ·rfl
  simp only[go_sem,simprocAttr,k0,k2,kS]
  done
 ·rw[←Zu8];exact sE.seen
 rcases d.tb.is' with⟨hD,f⟩|f
 ·exact .inl ⟨l,_,5,_,f,sE.tb.at'⟩
 exact .inr ⟨l,_,_,f⟩
abbrev nsS(x:List Tbl)(c:Chg)(lt n:Nat)(m:Int):Fr:=[(5,I m),(20,I m),(19,.str c.tb),(18,.ptr 1 1),(17,.agg [.own lt n]),(16,.agg [.own lt n]),(15,.agg [.rows (x.map Zc)]),(4,.ptr 2 0),(3,.ptr 1 0),(2,.ptr 0 0),(0,ZX x),(1,.agg (Zb c))]
structure NsH(g:Za)(lt:Nat)(X:List LT)(c:Chg):Prop where
 s:g[0]?=some (.cells [.own lt X.length])
 c:g[1]?=some (.cells (Zb c))
 z:g[2]?=some (.cells [.nils])
 at':SchAt g lt X
 sh:Shut g
 h3:3≤g.length
 lo:3≤lt∧∀T∈X,∀l∈T.pl,3≤l
theorem ZA2(t:Tbl)(r:List Tbl)(hl:(t::r).length≤1000)(hs:∀u∈t::r,SmT u)(hx:FitX (t::r))(c:Chg):∃g,NsH g (cqL 6 t) (cqX 6 t r) c ∧
  R K (.call 31 [ZX (t::r),.agg (Zb c)] [])=R K (.run 31 0 [.code (sqC 3 (f31.body.getD .skip))] (nsS (t::r) c (cqL 6 t) (1+r.length) (ixN c.tb ((t::r).map (·.nm)) 0)) g):=by
 have v:=Zkh t r hl hs;have ht:=YT (t::r) c.tb hx.len;have k:SchAt ([.cells [.own (cqL 6 t) (1+r.length)],.cells (Zb c),.cells [.nils],.cells [.rows ((t::r).map Zc)],.cells [.own (cqL 6 t) (1+r.length)],.cells [.own (cqL 6 t) (1+r.length)]]++(cqH 6 t r++[])) (cqL 6 t) (cqX 6 t r):=Zuc rfl;rw[Vv]at k;have p:=k.snap [.str c.tb] [.str c.tb] rfl;rw[Zpf,Zpm]at p;refine⟨[.cells [.own (cqL 6 t) (1+r.length)],.cells (Zb c),.cells [.nils],.cells [.rows ((t::r).map Zc)],.cells [.own (cqL 6 t) (1+r.length)],.cells [.own (cqL 6 t) (1+r.length)]]++cqH 6 t r,⟨?_,rfl,rfl,k,?_,?_,?_⟩,?_⟩
 ·rw[Zpm];rfl
 ·obtain⟨w,C⟩:=Zq9 6 t r;have G:cqL 6 t<6+(cqH 6 t r).length:=by simp only[cqL,cqH,Vu,VC];omega
  refine Shut.mk' (fun l hl=>?_) (fun b d=>?_)
  ·rw[ZR]at hl;rw[Vu];rcases Vg.1 hl with hl|hl
   ·have:l=cqL 6 t:=by simpa[Zk,ZA,Zg,locs,Wn]using hl
    simp;omega
   have:=w l hl;simp;omega
  rcases Vg.1 d with d|d
  ·simp only[Vn,V3,UR]at d;rcases d with rfl|rfl|rfl|rfl|rfl|rfl
   ·simp[eqB,eqL,eqA]
   ·exact ZbO c
   ·simp[eqB,eqL,eqA]
   ·have e:eqR ((t::r).map Zc) ((t::r).map Zc)=true:=Jk (fun a=>by simp[Zc,eqL,eqA,Zak,XU,Zjj,ZhY]) _;simp only[eqB,eqL,eqA,e,U6]
   ·simp[eqB,eqL,eqA]
   simp[eqB,eqL,eqA]
  exact C b d
 ·simp
 ·refine⟨by simp only[cqL];omega,fun T q l hl=>?_⟩;have E:=(ZfO r (6+(Yz 6 t).length+1)).2;rcases Vn.1 q with rfl|q
  ·rw[Qh,U3]at hl;omega
  have:=E l (V1.2 ⟨T,q,hl⟩);omega
 have s:=k.tb;generalize F:t::r=x at *;generalize f:sqC 3 (f31.body.getD .skip)=T;simp only[f31,sqC,VP]at f;rw[Zxp];simp only[f31,VP];rw[f];simp only[Zb,Vl,Vi]at p s;simp only[go_sem,simprocAttr,v,ht,p,Zb,s,V4,Zkq,ZjU,Vl,Vi];rfl
theorem Zcq:∀(Y:List LW) (i:Nat) (V k:LW),Y[i]?=some V→(Y.flatMap LW.pl).Nodup→k.pl.Nodup→(∀p∈k.pl,p∈V.pl∨p∉Y.flatMap LW.pl)→((Y.set i k).flatMap LW.pl).Nodup
 |[],_,_,_,h,_,_,_=>by simp at h
 |A::Y,0,V,k,h,q,d,l=>by
  simp only[Vt,Va]at h;subst h;simp only[SY,US]at q l ⊢;obtain⟨_,w,u⟩:=VY.1 q;refine VY.2 ⟨d,w,fun a r b v e=>?_⟩;subst e;rcases l a r with h|h
  ·exact u a h a v rfl
  exact h (Vg.2 (.inr v))
 |A::Y,i+1,V,k,h,q,d,l=>by
  have h':Y[i]?=some V:=by simpa using h
  simp only[Sz,US]at q l ⊢;obtain⟨E,w,u⟩:=VY.1 q;have F:∀p∈V.pl,p∈Y.flatMap LW.pl:=fun p f=>V1.2 ⟨V,Ve h',f⟩;refine VY.2 ⟨E,Zcq Y i V k h' w d fun p f=>?_,fun a r b v e=>?_⟩
  ·rcases l p f with h|h
   ·exact .inl h
   exact .inr fun G=>h (Vg.2 (.inr G))
  subst e;obtain⟨U,C,s⟩:=V1.1 v;rcases VL C with C|rfl
  ·exact u a r a (V1.2 ⟨U,C,s⟩) rfl
  rcases l a s with h|h
  ·exact u a r a (F a h) rfl
  exact h (Vg.2 (.inl r))
theorem SchAt.updW{g g':Za}(s:SchAt g lt X)(hi:X[i]?=some T)(E:g'[lt]?=some (.rows 5 ((X.map Zn).set i (ZZ W')) true))(F:HW g' W')(fr:∀l,l<g.length→l≠lt→l∉T.pl→g'[l]?=g[l]?)(w:∀p∈W'.pl,p∈T.pl∨g.length≤p)(G:W'.pl.Nodup):
  SchW g' (.own lt X.length) lt ((X.map LT.toW).set i W') []:=by
 have J:=s.toW;have r:(X.map LT.toW)[i]?=some T.toW:=by rw[Vj,hi];rfl
 have M:((X.map LT.toW).set i W').map ZZ=(X.map Zn).set i (ZZ W'):=by rw[V9,V8];rfl
 have low:∀p∈(X.map LT.toW).flatMap LW.pl,p<g.length:=fun p d=>by obtain⟨U,f,b⟩:=V1.1 d;obtain⟨V,u,rfl⟩:=VE.1 f;exact s.lo V u p b
 have C:=Vx.1 J.ap;have N:=(Vb.1 s.tb).1;refine⟨by rw[M];exact .own E (by simp),fun U f=>?_,Vx.2 ⟨fun v=>?_,Zcq _ i T.toW W' r C.2 G fun p d=>?_⟩,rfl⟩
 ·obtain⟨k,hk⟩:=Uf.1 f;by_cases q:i=k
  ·subst q;rw[Vf (Vb.1 r).1]at hk;cases hk;exact F
  rw[Vc q,Vj,UT]at hk;obtain⟨V,u,rfl⟩:=hk;have:=s.notIn hi u q;have O:=s.lo V (Ve u);exact((s.ht V (Ve u)).frame fun l hl=>fr l (O l hl) (this l hl).1 (this l hl).2).toW
 ·obtain⟨U,f,b⟩:=V1.1 v;rcases VL f with f|rfl
  ·exact C.1 (V1.2 ⟨U,f,b⟩)
  rcases w lt b with h|h
  ·exact s.ne (Ve hi) h
  omega
 rcases w p d with h|h
 ·exact .inl h
 exact .inr fun v=>by have:=low p v;omega
theorem ZvX:((X.map LT.toW).set i W').map LW.tbl=(X.map LT.tbl).set i W'.tbl:=by rw[V9,V8];rfl
theorem Zc6{g g':Za}{n:Nat}{m:Int}(b:NsH g lt X c)(hi:X[i]?=some T)(hX:X.length≤10)(q:∀U∈X,U.fs.length≤15∧U.is.length≤15)
  (E:g'[lt]?=some (.rows 5 ((X.map Zn).set i (ZZ W')) true)) (F:HW g' W') (fr:∀l,l<g.length→l≠lt→l∉T.pl→g'[l]?=g[l]?) (v:∀p∈W'.pl,p∈T.pl∨g.length≤p) (G:W'.pl.Nodup) (w:g.length≤g'.length) (J:Zi g'.length (Zk g')=true) (r:W'.fs.length<20∧W'.is.length<20)
  (M:∃S,get S 2=.ptr 0 0∧get S 4=.ptr 2 0∧R K (.run 31 0 [.code (sqC 3 (f31.body.getD .skip))] (nsS x c lt n m) g)=R K (.run 31 0 [.code (sqC 4 (f31.body.getD .skip))] S g')) :
  ∃H a,R K (.run 31 0 [.code (sqC 3 (f31.body.getD .skip))] (nsS x c lt n m) g)=some (.agg [a],H)∧SeenX H a (Y2 ((X.map LT.tbl).set i W'.tbl))∧IsL H a:=by
 obtain⟨S,N,O,e⟩:=M;have P:=b.at'.updW hi E F fr v G;have f:=Ve hi;have h3:=b.h3;have low:∀p∈((X.map LT.toW).set i W').flatMap LW.pl,3≤p:=fun p Q=>by
  obtain⟨U,d,k⟩:=V1.1 Q;rcases VL d with d|rfl
  ·obtain⟨V,u,rfl⟩:=VE.1 d;exact b.lo.2 V u p k
  rcases v p k with h|h
  ·exact b.lo.2 T f p h
  omega
 have W:=b.lo.1;have C:∀l,l<3→g'[l]?=g[l]?:=fun l hl=>fr l (by omega) (by omega) (fun h=>by have:=b.lo.2 T f l h;omega);obtain⟨H,Y,Z,q3⟩:=Zhh N O P ((C 0 (by omega)).trans b.s) ((C 2 (by omega)).trans b.z) J (by simp;omega) (fun U d=>by
  rcases VL d with d|rfl
  ·obtain⟨V,u,rfl⟩:=VE.1 d;have:=q V u;exact⟨by show V.fs.length<20;omega,by show V.is.length<20;omega⟩
  exact r) (by omega) ⟨by omega,by omega⟩ ⟨fun h=>by have:=low 0 h;omega,fun h=>by have:=low 2 h;omega⟩
 exact⟨H,_,e.trans Y,by rw[←ZvX];exact Z,q3⟩
theorem W8(s:SchAt g lt X)(hi:X[i]?=some T):∀x∈Zg (Zn T),x<g.length:=fun x hx=>s.lo T (Ve hi) x (by
 simp only[Zn,Zg,locs,Vi,Vv,Ud,Vn,V3,UR]at hx;simp only[LT.pl,Vn,Vg];rcases hx with e|e|e|e
 ·exact .inl e
 ·exact .inr (.inl e)
 ·exact .inr (.inr (.inl e))
 exact .inr (.inr (.inr (.inl e))))
theorem Qr{n:Nat}(s:SchAt g lt X)(f:Zi g.length (Zk g)=true)(hn:g.length≤n)(k:∀x∈Zg row,x<n):Zi n (ZA (.rows 5 ((X.map Zn).set i row) true))=true:=Zt.2 fun x hx=>by
 obtain⟨r,b,d⟩:=Yy (show x∈Zz _ from hx);rcases VL b with b|b
 ·have:x∈ZA (.rows 5 (X.map Zn) true):=YH b x d;have:=Zt.1 f x (Y5 s.tb x this);omega
 rw[b]at d;exact k x d
section
variable{x:List Tbl}{g:Za}{lt i n:Nat}{X:List LT}{T:LT}{c:Chg}
theorem ZxT(v:NsH g lt X c)(hi:X[i]?=some T)(N:c.kd=4)(hX:X.length≤10)(E:∀U∈X,U.fs.length≤15∧U.is.length≤15)(O:(T.cols.length+1)*65≤Zp):
  ∃H a,R K (.run 31 0 [.code (sqC 3 (f31.body.getD .skip))] (nsS x c lt n (i:Int)) g)=some (.agg [a],H)∧SeenX H a (Y2 ((X.map LT.tbl).set i ⟨T.tbl.nm,T.tbl.cols++[c.col],T.tbl.key,T.tbl.fgn,T.tbl.idx⟩))∧IsL H a:=by
 have hs:=v.at';have r:=Ve hi;have w:=hs.ht T r;have hP:=(Vb.1 w.c).1;have P:=(Vb.1 hs.tb).1;have nd:=Xu hs hi;have q:=nd;simp only[LT.pl,Vx,Vn,Vg,So,VY]at q;have d:∀l,l∈T.pl→l≠lt:=fun l hl e=>hs.ne r (e▸hl);have F:lt≠T.lc:=fun e=>d T.lc (by simp[LT.pl]) e.symm;have mf:∀l∈T.fs.filterMap (·.l),l∈T.pl:=fun l hl=>by simp only[LT.pl,Vn,Vg];exact .inr (.inr (.inr (.inr (.inl hl))))
 have mi:∀l∈T.is.filterMap (·.l),l∈T.pl:=fun l hl=>by simp only[LT.pl,Vn,Vg];exact .inr (.inr (.inr (.inr (.inr hl))))
 generalize u:(⟨T.nm,.own T.lc (T.cols.length+1),[T.lc],T.cols++[c.col],T.lk,T.key,.own T.lf T.fs.length,T.lf,T.fs,[],.own T.li T.is.length,T.li,T.is,[]⟩:LW)=W';have Q:ZZ W'=ZZ (⟨T.nm,.own T.lc (T.cols.length+1),[T.lc],T.cols++[c.col],T.lk,T.key,.own T.lf T.fs.length,T.lf,T.fs,[],.own T.li T.is.length,T.li,T.is,[]⟩:LW):=by rw[u]
 generalize M:Blk.rows 5 ((X.map Zn).set i (ZZ W')) true=R5;have Gp:((g.set T.lc (.rows 6 ((T.cols++[c.col]).map Zh) true)).set lt R5)[T.lc]?=some (.rows 6 ((T.cols++[c.col]).map Zh) true):=by rw[Vc F,Vf hP]
 have Gt:((g.set T.lc (.rows 6 ((T.cols++[c.col]).map Zh) true)).set lt R5)[lt]?=some R5:=Vf (by simpa using P);have C:∀l,l≠T.lc→l≠lt→((g.set T.lc (.rows 6 ((T.cols++[c.col]).map Zh) true)).set lt R5)[l]?=g[l]?:=fun l W Y=>by rw[Vc Y.symm,Vc W.symm]
 have uN:∀x∈ZA (.rows 6 ((T.cols++[c.col]).map Zh) true),x<g.length:=fun x hx=>by rw[ZA,Zw]at hx;simp at hx
 have hW:HW ((g.set T.lc (.rows 6 ((T.cols++[c.col]).map Zh) true)).set lt R5) W':=by
  rw[←u];refine⟨.inr ⟨T.lc,[],rfl,Dead.nil,.own Gp (by simp)⟩,(C T.lk (fun e=>q.1.1 e.symm) (fun e=>d T.lk (by simp[LT.pl]) e)).trans w.k,.own ((C T.lf (fun e=>q.1.2.1 e.symm) (fun e=>d T.lf (by simp[LT.pl]) e)).trans w.f) (by simp),.own ((C T.li (fun e=>q.1.2.2.1 e.symm) (fun e=>d T.li (by simp[LT.pl]) e)).trans w.i) (by simp),fun a G l e=>?_,fun a G l e=>?_,Dead.nil,Dead.nil⟩
  ·have m:l∈T.fs.filterMap (·.l):=VG.2 ⟨a,G,e⟩;exact(C l (fun e'=>q.1.2.2.2.1 (e'▸m)) (fun e'=>d l (mf l m) e')).trans (w.fc a G l e)
  have m:l∈T.is.filterMap (·.l):=VG.2 ⟨a,G,e⟩;exact(C l (fun e'=>q.1.2.2.2.2 (e'▸m)) (fun e'=>d l (mi l m) e')).trans (w.ic a G l e)
 have et:W'.tbl=⟨T.tbl.nm,T.tbl.cols++[c.col],T.tbl.key,T.tbl.fgn,T.tbl.idx⟩:=by rw[←u];simp[LW.tbl,LT.tbl]
 have ep:W'.pl=T.pl:=by rw[←u];simp[LW.pl,LT.pl]
 rw[←et];refine Zc6 (x:=x) (n:=n) (m:=(i:Int)) v hi hX E (by rw[Gt,M]) hW (fun l _ W Y=>C l (fun e=>Y (by rw[e];simp[LT.pl])) W) (fun p hp=>.inl (by rwa [ep]at hp)) (by rw[ep];exact nd) (by simp) ?_ (by rw[←u];exact by have:=E T r;exact⟨by show T.fs.length<20;omega,by show T.is.length<20;omega⟩) ?_
 ·have lr:∀x∈Zg (ZZ W'),x<g.length:=fun x hx=>by refine W8 hs hi x ?_;rw[Q]at hx;simpa[ZZ,Zn,Zg,locs]using hx
  have:=Qr (n:=g.length) (i:=i) hs v.sh.cl (Vw _) lr;rw[M]at this;simp only[Vq];exact ZM (ZM v.sh.cl (Zt.2 uN)) this
 have Z:(X.map Zn)[i]?=some (Zn T):=by rw[Vj,hi];rfl
 have ga:=ZW Z;have eC:T.cols.map Zh++[[.str c.col.nm,I c.col.kd,.bool c.col.nl,I c.col.df.k,I c.col.df.n,.str c.col.df.s]]=(T.cols++[c.col]).map Zh:=by simp[Zh]
 have a0:∀b:Blk,(g.set T.lc b)[lt]?=some (.rows 5 (X.map Zn) true):=fun b=>by rw[Vc F.symm];exact hs.tb
 have gs:∀b:Blk,(g.set T.lc b)[T.lc]?=some b:=fun b=>Vf hP;have g0:∀b:Blk,(g.set T.lc b)[0]?=some (.cells [.own lt X.length]):=fun b=>by rw[Vc (by have:=v.lo.2 T r T.lc (by simp[LT.pl]);omega)];exact v.s
 have hc:=v.c;have h0:=v.s;have n0:(0==T.lc)=false:=by have:=v.lo.2 T r T.lc (by simp[LT.pl]);rw[VR];omega
 generalize J:sqC 4 (f31.body.getD .skip)=T4;simp only[f31,sqC,VP]at J;simp only[ZZ]at Q;simp only[Zn]at Z ga;rw[show ZZ W'=_ from Q]at M;simp only[Zb]at hc;refine Exists.intro ?S (And.intro ?h1 (And.intro ?h2 ?h3))
 case h3 =>
  simp only[f31,sqC,VP,nsS];rw[J];simp only[go_sem,simprocAttr,N,hc,h0,hs.tb,Z,ga,w.c,eC,O,a0,gs,g0,M,ZB,Zf,n0,VN,VW,V7,Vd,Vk,Zb];rfl
 case h1=>rfl
 case h2=>rfl
theorem ZtE(w:NsH g lt X c)(hi:X[i]?=some T)(O:c.kd=11)(hX:X.length≤10)(G:∀U∈X,U.fs.length≤15∧U.is.length≤15)(P:(T.is.length+1)*49≤Zp):
  ∃H a,R K (.run 31 0 [.code (sqC 3 (f31.body.getD .skip))] (nsS x c lt n (i:Int)) g)=some (.agg [a],H)∧SeenX H a (Y2 ((X.map LT.tbl).set i ⟨T.tbl.nm,T.tbl.cols,T.tbl.key,T.tbl.fgn,T.tbl.idx++[c.idx]⟩))∧IsL H a:=by
 have hs:=w.at';have r:=Ve hi;have C:=hs.ht T r;have hP:=(Vb.1 C.i).1;have Q:=(Vb.1 hs.tb).1;have nd:=Xu hs hi;have q:=nd;simp only[LT.pl,Vx,Vn,Vg,So,VY]at q;have d:∀l,l∈T.pl→l≠lt:=fun l hl e=>hs.ne r (e▸hl);have J:lt≠T.li:=fun e=>d T.li (by simp[LT.pl]) e.symm;have mf:∀l∈T.fs.filterMap (·.l),l∈T.pl:=fun l hl=>by simp only[LT.pl,Vn,Vg];exact .inr (.inr (.inr (.inr (.inl hl))))
 have mi:∀l∈T.is.filterMap (·.l),l∈T.pl:=fun l hl=>by simp only[LT.pl,Vn,Vg];exact .inr (.inr (.inr (.inr (.inr hl))))
 generalize u:(⟨T.nm,.own T.lc T.cols.length,[T.lc],T.cols,T.lk,T.key,.own T.lf T.fs.length,T.lf,T.fs,[],.own T.li (T.is.length+1),T.li,T.is++[⟨c.idx,none⟩],[]⟩:LW)=W';have W:ZZ W'=ZZ (⟨T.nm,.own T.lc T.cols.length,[T.lc],T.cols,T.lk,T.key,.own T.lf T.fs.length,T.lf,T.fs,[],.own T.li (T.is.length+1),T.li,T.is++[⟨c.idx,none⟩],[]⟩:LW):=by rw[u]
 generalize N:Blk.rows 5 ((X.map Zn).set i (ZZ W')) true=R5;have Gp:((g.set T.li (.rows 3 ((T.is++[(⟨c.idx,none⟩:LI)]).map ZJ) true)).set lt R5)[T.li]?=some (.rows 3 ((T.is++[(⟨c.idx,none⟩:LI)]).map ZJ) true):=by rw[Vc J,Vf hP]
 have Gt:((g.set T.li (.rows 3 ((T.is++[(⟨c.idx,none⟩:LI)]).map ZJ) true)).set lt R5)[lt]?=some R5:=Vf (by simpa using Q);have E:∀l,l≠T.li→l≠lt→((g.set T.li (.rows 3 ((T.is++[(⟨c.idx,none⟩:LI)]).map ZJ) true)).set lt R5)[l]?=g[l]?:=fun l Y Z=>by rw[Vc Z.symm,Vc Y.symm]
 have uN:∀x∈ZA (.rows 3 ((T.is++[(⟨c.idx,none⟩:LI)]).map ZJ) true),x<g.length:=fun x hx=>by
   obtain⟨b,F,e⟩:=ZcU (show x∈Zz _ from hx);rcases Vg.1 F with F|F
   ·exact(Vb.1 (C.ic b F x e)).1
   rw[VH]at F;subst F;simp at e
 have hW:HW ((g.set T.li (.rows 3 ((T.is++[(⟨c.idx,none⟩:LI)]).map ZJ) true)).set lt R5) W':=by
  rw[←u];refine⟨.inr ⟨T.lc,[],rfl,Dead.nil,.own ((E T.lc (fun e=>q.1.2.2.1 e) (fun e=>d T.lc (by simp[LT.pl]) e)).trans C.c) (by simp)⟩,(E T.lk (fun e=>q.2.1.2.1 e) (fun e=>d T.lk (by simp[LT.pl]) e)).trans C.k,.own ((E T.lf (fun e=>q.2.2.1.1 e) (fun e=>d T.lf (by simp[LT.pl]) e)).trans C.f) (by simp),.own Gp (by simp),fun a v l e=>?_,fun a v l e=>?_,Dead.nil,Dead.nil⟩
  ·have m:l∈T.fs.filterMap (·.l):=VG.2 ⟨a,v,e⟩;exact(E l (fun e'=>q.2.2.2.1.1 (e'▸m)) (fun e'=>d l (mf l m) e')).trans (C.fc a v l e)
  rcases Vg.1 v with v|v
  ·have m:l∈T.is.filterMap (·.l):=VG.2 ⟨a,v,e⟩;exact(E l (fun e'=>q.2.2.2.1.2 (e'▸m)) (fun e'=>d l (mi l m) e')).trans (C.ic a v l e)
  rw[VH]at v;subst v;simp at e
 have et:W'.tbl=⟨T.tbl.nm,T.tbl.cols,T.tbl.key,T.tbl.fgn,T.tbl.idx++[c.idx]⟩:=by rw[←u];simp[LW.tbl,LT.tbl]
 have ep:W'.pl=T.pl:=by rw[←u];simp[LW.pl,LT.pl]
 rw[←et];refine Zc6 (x:=x) (n:=n) (m:=(i:Int)) w hi hX G (by rw[Gt,N]) hW (fun l _ Y Z=>E l (fun e=>Z (by rw[e];simp[LT.pl])) Y) (fun p hp=>.inl (by rwa [ep]at hp)) (by rw[ep];exact nd) (by simp) ?_ (by rw[←u];exact by have:=G T r;exact⟨by show T.fs.length<20;omega,by simp;omega⟩) ?_
 ·have lr:∀x∈Zg (ZZ W'),x<g.length:=fun x hx=>by refine W8 hs hi x ?_;rw[W]at hx;simpa[ZZ,Zn,Zg,locs]using hx
  have:=Qr (n:=g.length) (i:=i) hs w.sh.cl (Vw _) lr;rw[N]at this;simp only[Vq];exact ZM (ZM w.sh.cl (Zt.2 uN)) this
 have g2:(X.map Zn)[i]?=some (Zn T):=by rw[Vj,hi];rfl
 have ga:=ZW g2;have eC:T.is.map ZJ++[[.str c.idx.nm,.rows (SLs c.idx.cols),.bool c.idx.uq]]=(T.is++[(⟨c.idx,none⟩:LI)]).map ZJ:=by simp[ZJ,Yc]
 have a0:∀b:Blk,(g.set T.li b)[lt]?=some (.rows 5 (X.map Zn) true):=fun b=>by rw[Vc J.symm];exact hs.tb
 have gs:∀b:Blk,(g.set T.li b)[T.li]?=some b:=fun b=>Vf hP;have g0:∀b:Blk,(g.set T.li b)[0]?=some (.cells [.own lt X.length]):=fun b=>by rw[Vc (by have:=w.lo.2 T r T.li (by simp[LT.pl]);omega)];exact w.s
 have hc:=w.c;have h0:=w.s;have n0:(0==T.li)=false:=by have:=w.lo.2 T r T.li (by simp[LT.pl]);rw[VR];omega
 generalize M:sqC 4 (f31.body.getD .skip)=T4;simp only[f31,sqC,VP]at M;simp only[ZZ]at W;simp only[Zn]at g2 ga;rw[show ZZ W'=_ from W]at N;simp only[Zb]at hc;refine Exists.intro ?S (And.intro ?h1 (And.intro ?h2 ?h3))
 case h3 =>
  simp only[f31,sqC,VP,nsS];rw[M];simp only[go_sem,simprocAttr,O,hc,h0,hs.tb,g2,ga,C.i,eC,P,a0,gs,g0,N,ZB,Zf,n0,VN,VW,V7,Vd,Vk,Zb];rfl
 case h1=>rfl
 case h2=>rfl
theorem Zwa(w:NsH g lt X c)(hi:X[i]?=some T)(O:c.kd=13)(hX:X.length≤10)(G:∀U∈X,U.fs.length≤15∧U.is.length≤15)(P:(T.fs.length+1)*57≤Zp):
  ∃H a,R K (.run 31 0 [.code (sqC 3 (f31.body.getD .skip))] (nsS x c lt n (i:Int)) g)=some (.agg [a],H)∧SeenX H a (Y2 ((X.map LT.tbl).set i ⟨T.tbl.nm,T.tbl.cols,T.tbl.key,T.tbl.fgn++[c.fgn],T.tbl.idx⟩))∧IsL H a:=by
 have hs:=w.at';have r:=Ve hi;have C:=hs.ht T r;have hP:=(Vb.1 C.f).1;have Q:=(Vb.1 hs.tb).1;have nd:=Xu hs hi;have q:=nd;simp only[LT.pl,Vx,Vn,Vg,So,VY]at q;have d:∀l,l∈T.pl→l≠lt:=fun l hl e=>hs.ne r (e▸hl);have J:lt≠T.lf:=fun e=>d T.lf (by simp[LT.pl]) e.symm;have mf:∀l∈T.fs.filterMap (·.l),l∈T.pl:=fun l hl=>by simp only[LT.pl,Vn,Vg];exact .inr (.inr (.inr (.inr (.inl hl))))
 have mi:∀l∈T.is.filterMap (·.l),l∈T.pl:=fun l hl=>by simp only[LT.pl,Vn,Vg];exact .inr (.inr (.inr (.inr (.inr hl))))
 generalize u:(⟨T.nm,.own T.lc T.cols.length,[T.lc],T.cols,T.lk,T.key,.own T.lf (T.fs.length+1),T.lf,T.fs++[⟨c.fgn,none⟩],[],.own T.li T.is.length,T.li,T.is,[]⟩:LW)=W';have W:ZZ W'=ZZ (⟨T.nm,.own T.lc T.cols.length,[T.lc],T.cols,T.lk,T.key,.own T.lf (T.fs.length+1),T.lf,T.fs++[⟨c.fgn,none⟩],[],.own T.li T.is.length,T.li,T.is,[]⟩:LW):=by rw[u]
 generalize N:Blk.rows 5 ((X.map Zn).set i (ZZ W')) true=R5;have Gp:((g.set T.lf (.rows 3 ((T.fs++[(⟨c.fgn,none⟩:LF)]).map ZF) true)).set lt R5)[T.lf]?=some (.rows 3 ((T.fs++[(⟨c.fgn,none⟩:LF)]).map ZF) true):=by rw[Vc J,Vf hP]
 have Gt:((g.set T.lf (.rows 3 ((T.fs++[(⟨c.fgn,none⟩:LF)]).map ZF) true)).set lt R5)[lt]?=some R5:=Vf (by simpa using Q);have E:∀l,l≠T.lf→l≠lt→((g.set T.lf (.rows 3 ((T.fs++[(⟨c.fgn,none⟩:LF)]).map ZF) true)).set lt R5)[l]?=g[l]?:=fun l Y Z=>by rw[Vc Z.symm,Vc Y.symm]
 have uN:∀x∈ZA (.rows 3 ((T.fs++[(⟨c.fgn,none⟩:LF)]).map ZF) true),x<g.length:=fun x hx=>by
   obtain⟨b,F,e⟩:=Zaw (show x∈Zz _ from hx);rcases Vg.1 F with F|F
   ·exact(Vb.1 (C.fc b F x e)).1
   rw[VH]at F;subst F;simp at e
 have hW:HW ((g.set T.lf (.rows 3 ((T.fs++[(⟨c.fgn,none⟩:LF)]).map ZF) true)).set lt R5) W':=by
  rw[←u];refine⟨.inr ⟨T.lc,[],rfl,Dead.nil,.own ((E T.lc (fun e=>q.1.2.1 e) (fun e=>d T.lc (by simp[LT.pl]) e)).trans C.c) (by simp)⟩,(E T.lk (fun e=>q.2.1.1 e) (fun e=>d T.lk (by simp[LT.pl]) e)).trans C.k,.own Gp (by simp),.own ((E T.li (fun e=>q.2.2.1.1 e.symm) (fun e=>d T.li (by simp[LT.pl]) e)).trans C.i) (by simp),fun a v l e=>?_,fun a v l e=>?_,Dead.nil,Dead.nil⟩
  ·rcases Vg.1 v with v|v
   ·have m:l∈T.fs.filterMap (·.l):=VG.2 ⟨a,v,e⟩;exact(E l (fun e'=>q.2.2.1.2.1 (e'▸m)) (fun e'=>d l (mf l m) e')).trans (C.fc a v l e)
   rw[VH]at v;subst v;simp at e
  have m:l∈T.is.filterMap (·.l):=VG.2 ⟨a,v,e⟩;exact(E l (fun e'=>q.2.2.1.2.2 (e'▸m)) (fun e'=>d l (mi l m) e')).trans (C.ic a v l e)
 have et:W'.tbl=⟨T.tbl.nm,T.tbl.cols,T.tbl.key,T.tbl.fgn++[c.fgn],T.tbl.idx⟩:=by rw[←u];simp[LW.tbl,LT.tbl]
 have ep:W'.pl=T.pl:=by rw[←u];simp[LW.pl,LT.pl]
 rw[←et];refine Zc6 (x:=x) (n:=n) (m:=(i:Int)) w hi hX G (by rw[Gt,N]) hW (fun l _ Y Z=>E l (fun e=>Z (by rw[e];simp[LT.pl])) Y) (fun p hp=>.inl (by rwa [ep]at hp)) (by rw[ep];exact nd) (by simp) ?_ (by rw[←u];exact by have:=G T r;exact⟨by simp;omega,by show T.is.length<20;omega⟩) ?_
 ·have lr:∀x∈Zg (ZZ W'),x<g.length:=fun x hx=>by refine W8 hs hi x ?_;rw[W]at hx;simpa[ZZ,Zn,Zg,locs]using hx
  have:=Qr (n:=g.length) (i:=i) hs w.sh.cl (Vw _) lr;rw[N]at this;simp only[Vq];exact ZM (ZM w.sh.cl (Zt.2 uN)) this
 have g2:(X.map Zn)[i]?=some (Zn T):=by rw[Vj,hi];rfl
 have ga:=ZW g2;have eC:T.fs.map ZF++[[.str c.fgn.nm,.rows (SLs c.fgn.cols),.str c.fgn.tb]]=(T.fs++[(⟨c.fgn,none⟩:LF)]).map ZF:=by simp[ZF,Yc]
 have a0:∀b:Blk,(g.set T.lf b)[lt]?=some (.rows 5 (X.map Zn) true):=fun b=>by rw[Vc J.symm];exact hs.tb
 have gs:∀b:Blk,(g.set T.lf b)[T.lf]?=some b:=fun b=>Vf hP;have g0:∀b:Blk,(g.set T.lf b)[0]?=some (.cells [.own lt X.length]):=fun b=>by rw[Vc (by have:=w.lo.2 T r T.lf (by simp[LT.pl]);omega)];exact w.s
 have hc:=w.c;have h0:=w.s;have n0:(0==T.lf)=false:=by have:=w.lo.2 T r T.lf (by simp[LT.pl]);rw[VR];omega
 generalize M:sqC 4 (f31.body.getD .skip)=T4;simp only[f31,sqC,VP]at M;simp only[ZZ]at W;simp only[Zn]at g2 ga;rw[show ZZ W'=_ from W]at N;simp only[Zb]at hc;refine Exists.intro ?S (And.intro ?h1 (And.intro ?h2 ?h3))
 case h3 =>
  simp only[f31,sqC,VP,nsS];rw[M];simp only[go_sem,simprocAttr,O,hc,h0,hs.tb,g2,ga,C.f,eC,P,a0,gs,g0,N,ZB,Zf,n0,VN,VW,V7,Vd,Vk,Zb];rfl
 case h1=>rfl
 case h2=>rfl
end
theorem ZnA(N i:Nat):ZO (List.range N) N i=i:=by
 unfold ZO;by_cases h:i<N
 ·simp[h]
 rw[UG (by simpa using h)];simp;omega
theorem Zuj{F:Tk→Res}{f:FuncId}{hs:Za}{N:Nat}{args:List AV}{r:AV}(p:g.length=N)(C:Zi N (Zk g)=true)(q:Zi N (Zg args)=true)(e:F (.call f args g)=some (r,hs))(hl:N≤hs.length):Z0 F f g (List.range N) args=some (r,hs):=by
 have s:∀{ls:List Nat},Zi N ls=true→∀x∈ls,YQ (List.range N) x=x:=fun h x hx=>Zj8 (Zt.1 h x hx);have G:(Zg args).map (YQ (List.range N))=Zg args:=by
  conv=>rhs;rw[←PX (Zg args)]
  exact Ul (fun x hx=>s q x hx)
 have u:sub g (YQ (List.range N)) (List.range N)=some g:=by
  conv=>lhs;rw[UZ]
  rw[Zgj (fun l b k=>ZeO b fun x hx=>by rw[←UZ];exact s C x (Y5 k x hx)) N 0 (by omega),Ui,←p,ST]
 have o:∀i,ZO (List.range N) g.length i=i:=fun i=>by rw[p];exact ZnA N i
 have v:∀a:AV,ren (ZO (List.range N) g.length) a=a:=fun a=>Zlt a fun x _=>o x;have E:∀b:Blk,YY (ZO (List.range N) g.length) b=b:=fun b=>ZeO b fun x _=>o x;have k:back (ZO (List.range N) g.length) (List.range N) hs g=hs.take N:=by
  have split:back (ZO (List.range N) g.length) (List.range N) hs g=back (ZO (List.range N) g.length) (List.range N) (hs.take N) g:=by
   have key:∀(ls:List Nat) (hs g:Za),back (ZO (List.range N) N) ls hs g=back (ZO (List.range N) N) ls (hs.take ls.length) g:=fun ls=>by
    induction ls with
    |nil=>intro hs g;simp[back]
    |cons l ls J =>
     intro hs g;cases hs with
     |nil=>simp[back]
     |cons b hs=>simp only[VC,UH,back];exact J hs _
   have:=key (List.range N) hs g;rw[SH]at this;rw[p];exact this
  rw[split];have key:=Zee (σ:=ZO (List.range N) g.length) N 0 (hs.take N) g (by simp;omega) (by omega) (fun b _=>E b);rw[←UZ]at key;rw[key,Sp,Vi,VZ,←p,List.drop_length,Vv]
 have M:(hs.drop N).map (YY (ZO (List.range N) g.length))=hs.drop N:=by
  conv=>rhs;rw[←PX (hs.drop N)]
  exact Ul fun b _=>E b
 unfold Z0;rw[SH,G,Vr q,u];simp only[C,V7,Zdh args (s q),e,WZ,SH];have d:Z4 g (List.range N) r hs=some (r,hs):=by simp only[Z4,SH,v,k,M,Si]
 split
 ·rename_i h;rw[v,k,VM (by omega)]
 split
 ·rename_i h;split
  ·rename_i z rs wr O;split
   ·rw[v,k];have:hs=hs.take N++[.rows z rs wr]:=by
     conv=>lhs;rw[←Si N hs]
     congr 1;have h2:(hs.drop N).length=1:=by simp;omega
     obtain⟨b,w⟩:=Pg.1 h2;have h3:(hs.drop N)[0]?=some (.rows z rs wr):=by rw[Uc];exact O
     rw[w]at h3 ⊢;simpa using h3
    rw[←this]
   exact d
  exact d
 first
 |exact d
 |(rw[Vr hl];exact d)
theorem ZeA{h h':Za}{l:Nat}(e:eqB h[l]? h'[l]?=true):∀T:List Nat,(chg h h' T).contains l=false
 |[]=>rfl
 |k::T=>by
  unfold chg;split
  ·exact ZeA e T
  rename_i hk;have ne:k≠l:=fun e'=>hk (e'▸e);rw[SX,ZeA e T,Ps,VR];exact ne.symm
section
variable{x:List Tbl}{g:Za}{lt i n:Nat}{X:List LT}{T:LT}{c:Chg}
theorem ZyS(r:NsH g lt X c)(hi:X[i]?=some T)(a1:c.kd=12)(hX:X.length≤10)(O:∀U∈X,U.fs.length≤15∧U.is.length≤15){j:Nat}{a0:LI}(h0:ixN c.nm (T.tbl.idx.map (·.nm)) 0=(j:Int))(hj:T.is[j]?=some a0):
  ∃H a,R K (.run 31 0 [.code (sqC 3 (f31.body.getD .skip))] (nsS x c lt n (i:Int)) g)=some (.agg [a],H)∧SeenX H a (Y2 ((X.map LT.tbl).set i ⟨T.tbl.nm,T.tbl.cols,T.tbl.key,T.tbl.fgn,T.tbl.idx.filter fun f=>!(f.nm==c.nm)⟩))∧IsL H a:=by
 have hs:=r.at';have v:=Ve hi;have G:=hs.ht T v;have hP:=(Vb.1 G.i).1;have a2:=(Vb.1 hs.tb).1;have nd:=Xu hs hi;have u:=nd;simp only[LT.pl,Vx,Vn,Vg,So,VY]at u;have d:∀l,l∈T.pl→l≠lt:=fun l hl e=>hs.ne v (e▸hl);have P:lt≠T.li:=fun e=>d T.li (by simp[LT.pl]) e.symm;have mf:∀l∈T.fs.filterMap (·.l),l∈T.pl:=fun l hl=>by simp only[LT.pl,Vn,Vg];exact .inr (.inr (.inr (.inr (.inl hl))))
 have mi:∀l∈T.is.filterMap (·.l),l∈T.pl:=fun l hl=>by simp only[LT.pl,Vn,Vg];exact .inr (.inr (.inr (.inr (.inr hl))))
 have hz:=O T v;have h3:=r.h3;have dl:=ZBD (m:=g) (p:=1) (l:=T.li) (A:=T.is) (c:=c) (i:=j) (T:=a0) G.i
  (fun b Z q e=>by
   have m:q∈T.is.filterMap (·.l):=VG.2 ⟨b,Z,e⟩;exact⟨fun e=>u.2.2.2.1.2 (e▸m),G.ic b Z q e⟩) r.c r.sh.cl (by omega) (by
   have:T.tbl.idx.map (·.nm)=T.is.map fun a=>a.x.nm:=by simp only[LT.tbl,V8];rfl
   rw[←this];exact h0) hj
 generalize hF:(T.is.filter fun a=>!(a.x.nm==c.nm))=F at *;have C:F.Sublist T.is:=by rw[←hF];exact SO
 generalize hD:(List.replicate (T.is.length-F.length) ([.str [],.nils,.bool false]:List AV))=D at *;have a3:F.length+D.length=T.is.length:=by rw[←hD,Uh];have:=C.length_le;omega
 have Q:Dead D:=by
  rw[←hD];refine⟨Zbq fun row W=>by rw[SK W];rfl,?_⟩;generalize T.is.length-F.length=k
  induction k with
  |zero=>simp[eqR]
  |succ k ih=>simp only[Pb,eqR,ih,U6];simp[eqL,eqA]
 generalize E:(⟨T.nm,.own T.lc T.cols.length,[T.lc],T.cols,T.lk,T.key,.own T.lf T.fs.length,T.lf,T.fs,[],.vw T.li T.is.length 0 F.length,T.li,F,D⟩:LW)=W';have eW:ZZ W'=ZZ (⟨T.nm,.own T.lc T.cols.length,[T.lc],T.cols,T.lk,T.key,.own T.lf T.fs.length,T.lf,T.fs,[],.vw T.li T.is.length 0 F.length,T.li,F,D⟩:LW):=by rw[E]
 generalize hR:Blk.rows 5 ((X.map Zn).set i (ZZ W')) true=R5;have Gp:((g.set T.li (.rows 3 (F.map ZJ++D) true)).set lt R5)[T.li]?=some (.rows 3 (F.map ZJ++D) true):=by rw[Vc P,Vf hP]
 have Gt:((g.set T.li (.rows 3 (F.map ZJ++D) true)).set lt R5)[lt]?=some R5:=Vf (by simpa using a2);have M:∀l,l≠T.li→l≠lt→((g.set T.li (.rows 3 (F.map ZJ++D) true)).set lt R5)[l]?=g[l]?:=fun l e1 e2=>by rw[Vc e2.symm,Vc e1.symm]
 have uN:∀x∈ZA (.rows 3 (F.map ZJ++D) true),x<g.length:=fun x hx=>by rw[ZA,Xg,Q.1,Vv]at hx;obtain⟨b,Z,e⟩:=ZcU hx;exact(Vb.1 (G.ic b (C.subset Z) x e)).1
 have hW:HW ((g.set T.li (.rows 3 (F.map ZJ++D) true)).set lt R5) W':=by
  rw[←E];refine⟨.inr ⟨T.lc,[],rfl,Dead.nil,.own ((M T.lc (fun e=>u.1.2.2.1 e) (fun e=>d T.lc (by simp[LT.pl]) e)).trans G.c) (by simp)⟩,(M T.lk (fun e=>u.2.1.2.1 e) (fun e=>d T.lk (by simp[LT.pl]) e)).trans G.k,.own ((M T.lf (fun e=>u.2.2.1.1 e) (fun e=>d T.lf (by simp[LT.pl]) e)).trans G.f) (by simp),⟨Gp,.inr (by simp[a3])⟩,fun a J l e=>?_,fun a J l e=>?_,Dead.nil,Q⟩
  ·have m:l∈T.fs.filterMap (·.l):=VG.2 ⟨a,J,e⟩;exact(M l (fun e'=>u.2.2.2.1.1 (e'▸m)) (fun e'=>d l (mf l m) e')).trans (G.fc a J l e)
  have J:=C.subset J;have m:l∈T.is.filterMap (·.l):=VG.2 ⟨a,J,e⟩;exact(M l (fun e'=>u.2.2.2.1.2 (e'▸m)) (fun e'=>d l (mi l m) e')).trans (G.ic a J l e)
 have et:W'.tbl=⟨T.tbl.nm,T.tbl.cols,T.tbl.key,T.tbl.fgn,T.tbl.idx.filter fun f=>!(f.nm==c.nm)⟩:=by rw[←E];simp only[LW.tbl,LT.tbl,←hF,SC];rfl
 have ep:W'.pl.Sublist T.pl:=by rw[←E];exact .cons_cons _ (.cons_cons _ (.cons_cons _ (.cons_cons _ ((SJ _).append (C.filterMap _)))))
 rw[←et];refine Zc6 (x:=x) (n:=n) (m:=(i:Int)) r hi hX O (by rw[Gt,hR]) hW (fun l _ e1 e2=>M l (fun e=>e2 (by rw[e];simp[LT.pl])) e1) (fun p hp=>.inl (ep.subset hp)) (nd.sublist ep) (by simp) ?_ (by rw[←E];exact⟨by show T.fs.length<20;omega,by show F.length<20;have:=C.length_le;omega⟩) ?_
 ·have lr:∀x∈Zg (ZZ W'),x<g.length:=fun x hx=>by refine W8 hs hi x ?_;rw[eW]at hx;simpa[ZZ,Zn,Zg,locs]using hx
  have:=Qr (n:=g.length) (i:=i) hs r.sh.cl (Vw _) lr;rw[hR]at this;simp only[Vq];exact ZM (ZM r.sh.cl (Zt.2 uN)) this
 have g2:(X.map Zn)[i]?=some (Zn T):=by rw[Vj,hi];rfl
 have ga:=ZW g2;have a4:∀b:Blk,(g.set T.li b)[lt]?=some (.rows 5 (X.map Zn) true):=fun b=>by rw[Vc P.symm];exact hs.tb
 have gs:∀b:Blk,(g.set T.li b)[T.li]?=some b:=fun b=>Vf hP;have g0:∀b:Blk,(g.set T.li b)[0]?=some (.cells [.own lt X.length]):=fun b=>by rw[Vc (by have:=r.lo.2 T v T.li (by simp[LT.pl]);omega)];exact r.s
 have w:=Zuj (F:=R K) (N:=g.length) rfl r.sh.cl (by simp[Zg,locs,Zi];omega) dl (by simp);have hq:=r.sh.quiet [];rw[Vv]at hq;have hc:=r.c;have a5:=r.s;have hn:=ZeA (h:=g) (h':=g.set T.li (.rows 3 (F.map ZJ++D) true)) (l:=0) (by rw[g0,r.s];simp[eqB,eqL,eqA]) (List.range g.length);have n0:(0==T.li)=false:=by have:=r.lo.2 T v T.li (by simp[LT.pl]);rw[VR];omega
 generalize Y:sqC 4 (f31.body.getD .skip)=T4;simp only[f31,sqC,VP]at Y;simp only[ZZ]at eW;simp only[Zn]at g2 ga;rw[show ZZ W'=_ from eW]at hR;simp only[Zb]at hc;refine Exists.intro ?S (And.intro ?h1 (And.intro ?h2 ?h3))
 case h3 =>
  simp only[f31,sqC,VP,nsS];rw[Y];simp only[go_sem,simprocAttr,a1,hc,a5,hs.tb,g2,ga,G.i,w,hq,hn,SI,a4,gs,g0,hR,ZB,Zf,n0,VN,VW,V7,Vd,Vk,Zb];rfl
 case h1=>rfl
 case h2=>rfl
theorem ZyM(r:NsH g lt X c)(hi:X[i]?=some T)(a1:c.kd=14)(hX:X.length≤10)(O:∀U∈X,U.fs.length≤15∧U.is.length≤15){j:Nat}{a0:LF}(h0:ixN c.nm (T.tbl.fgn.map (·.nm)) 0=(j:Int))(hj:T.fs[j]?=some a0):
  ∃H a,R K (.run 31 0 [.code (sqC 3 (f31.body.getD .skip))] (nsS x c lt n (i:Int)) g)=some (.agg [a],H)∧SeenX H a (Y2 ((X.map LT.tbl).set i ⟨T.tbl.nm,T.tbl.cols,T.tbl.key,T.tbl.fgn.filter fun f=>!(f.nm==c.nm),T.tbl.idx⟩))∧IsL H a:=by
 have hs:=r.at';have v:=Ve hi;have G:=hs.ht T v;have hP:=(Vb.1 G.f).1;have a2:=(Vb.1 hs.tb).1;have nd:=Xu hs hi;have u:=nd;simp only[LT.pl,Vx,Vn,Vg,So,VY]at u;have d:∀l,l∈T.pl→l≠lt:=fun l hl e=>hs.ne v (e▸hl);have P:lt≠T.lf:=fun e=>d T.lf (by simp[LT.pl]) e.symm;have mf:∀l∈T.fs.filterMap (·.l),l∈T.pl:=fun l hl=>by simp only[LT.pl,Vn,Vg];exact .inr (.inr (.inr (.inr (.inl hl))))
 have mi:∀l∈T.is.filterMap (·.l),l∈T.pl:=fun l hl=>by simp only[LT.pl,Vn,Vg];exact .inr (.inr (.inr (.inr (.inr hl))))
 have hz:=O T v;have h3:=r.h3;have dl:=ZAY (m:=g) (p:=1) (l:=T.lf) (A:=T.fs) (c:=c) (i:=j) (T:=a0) G.f
  (fun b Z q e=>by
   have m:q∈T.fs.filterMap (·.l):=VG.2 ⟨b,Z,e⟩;exact⟨fun e=>u.2.2.1.2.1 (e▸m),G.fc b Z q e⟩) r.c r.sh.cl (by omega) (by
   have:T.tbl.fgn.map (·.nm)=T.fs.map fun a=>a.f.nm:=by simp only[LT.tbl,V8];rfl
   rw[←this];exact h0) hj
 generalize hF:(T.fs.filter fun a=>!(a.f.nm==c.nm))=F at *;have C:F.Sublist T.fs:=by rw[←hF];exact SO
 generalize hD:(List.replicate (T.fs.length-F.length) ([.str [],.nils,.str []]:List AV))=D at *;have a3:F.length+D.length=T.fs.length:=by rw[←hD,Uh];have:=C.length_le;omega
 have Q:Dead D:=by
  rw[←hD];refine⟨Zbq fun row W=>by rw[SK W];rfl,?_⟩;generalize T.fs.length-F.length=k
  induction k with
  |zero=>simp[eqR]
  |succ k ih=>simp only[Pb,eqR,ih,U6];simp[eqL,eqA]
 generalize E:(⟨T.nm,.own T.lc T.cols.length,[T.lc],T.cols,T.lk,T.key,.vw T.lf T.fs.length 0 F.length,T.lf,F,D,.own T.li T.is.length,T.li,T.is,[]⟩:LW)=W';have eW:ZZ W'=ZZ (⟨T.nm,.own T.lc T.cols.length,[T.lc],T.cols,T.lk,T.key,.vw T.lf T.fs.length 0 F.length,T.lf,F,D,.own T.li T.is.length,T.li,T.is,[]⟩:LW):=by rw[E]
 generalize hR:Blk.rows 5 ((X.map Zn).set i (ZZ W')) true=R5;have Gp:((g.set T.lf (.rows 3 (F.map ZF++D) true)).set lt R5)[T.lf]?=some (.rows 3 (F.map ZF++D) true):=by rw[Vc P,Vf hP]
 have Gt:((g.set T.lf (.rows 3 (F.map ZF++D) true)).set lt R5)[lt]?=some R5:=Vf (by simpa using a2);have M:∀l,l≠T.lf→l≠lt→((g.set T.lf (.rows 3 (F.map ZF++D) true)).set lt R5)[l]?=g[l]?:=fun l e1 e2=>by rw[Vc e2.symm,Vc e1.symm]
 have uN:∀x∈ZA (.rows 3 (F.map ZF++D) true),x<g.length:=fun x hx=>by rw[ZA,Xg,Q.1,Vv]at hx;obtain⟨b,Z,e⟩:=Zaw hx;exact(Vb.1 (G.fc b (C.subset Z) x e)).1
 have hW:HW ((g.set T.lf (.rows 3 (F.map ZF++D) true)).set lt R5) W':=by
  rw[←E];refine⟨.inr ⟨T.lc,[],rfl,Dead.nil,.own ((M T.lc (fun e=>u.1.2.1 e) (fun e=>d T.lc (by simp[LT.pl]) e)).trans G.c) (by simp)⟩,(M T.lk (fun e=>u.2.1.1 e) (fun e=>d T.lk (by simp[LT.pl]) e)).trans G.k,⟨Gp,.inr (by simp[a3])⟩,.own ((M T.li (fun e=>u.2.2.1.1 e.symm) (fun e=>d T.li (by simp[LT.pl]) e)).trans G.i) (by simp),fun a J l e=>?_,fun a J l e=>?_,Q,Dead.nil⟩
  ·have J:=C.subset J;have m:l∈T.fs.filterMap (·.l):=VG.2 ⟨a,J,e⟩;exact(M l (fun e'=>u.2.2.1.2.1 (e'▸m)) (fun e'=>d l (mf l m) e')).trans (G.fc a J l e)
  have m:l∈T.is.filterMap (·.l):=VG.2 ⟨a,J,e⟩;exact(M l (fun e'=>u.2.2.1.2.2 (e'▸m)) (fun e'=>d l (mi l m) e')).trans (G.ic a J l e)
 have et:W'.tbl=⟨T.tbl.nm,T.tbl.cols,T.tbl.key,T.tbl.fgn.filter fun f=>!(f.nm==c.nm),T.tbl.idx⟩:=by rw[←E];simp only[LW.tbl,LT.tbl,←hF,SC];rfl
 have ep:W'.pl.Sublist T.pl:=by rw[←E];exact .cons_cons _ (.cons_cons _ (.cons_cons _ (.cons_cons _ ((C.filterMap _).append (SJ _)))))
 rw[←et];refine Zc6 (x:=x) (n:=n) (m:=(i:Int)) r hi hX O (by rw[Gt,hR]) hW (fun l _ e1 e2=>M l (fun e=>e2 (by rw[e];simp[LT.pl])) e1) (fun p hp=>.inl (ep.subset hp)) (nd.sublist ep) (by simp) ?_ (by rw[←E];exact⟨by show F.length<20;have:=C.length_le;omega,by show T.is.length<20;omega⟩) ?_
 ·have lr:∀x∈Zg (ZZ W'),x<g.length:=fun x hx=>by refine W8 hs hi x ?_;rw[eW]at hx;simpa[ZZ,Zn,Zg,locs]using hx
  have:=Qr (n:=g.length) (i:=i) hs r.sh.cl (Vw _) lr;rw[hR]at this;simp only[Vq];exact ZM (ZM r.sh.cl (Zt.2 uN)) this
 have g2:(X.map Zn)[i]?=some (Zn T):=by rw[Vj,hi];rfl
 have ga:=ZW g2;have a4:∀b:Blk,(g.set T.lf b)[lt]?=some (.rows 5 (X.map Zn) true):=fun b=>by rw[Vc P.symm];exact hs.tb
 have gs:∀b:Blk,(g.set T.lf b)[T.lf]?=some b:=fun b=>Vf hP;have g0:∀b:Blk,(g.set T.lf b)[0]?=some (.cells [.own lt X.length]):=fun b=>by rw[Vc (by have:=r.lo.2 T v T.lf (by simp[LT.pl]);omega)];exact r.s
 have w:=Zuj (F:=R K) (N:=g.length) rfl r.sh.cl (by simp[Zg,locs,Zi];omega) dl (by simp);have hq:=r.sh.quiet [];rw[Vv]at hq;have hc:=r.c;have a5:=r.s;have hn:=ZeA (h:=g) (h':=g.set T.lf (.rows 3 (F.map ZF++D) true)) (l:=0) (by rw[g0,r.s];simp[eqB,eqL,eqA]) (List.range g.length);have n0:(0==T.lf)=false:=by have:=r.lo.2 T v T.lf (by simp[LT.pl]);rw[VR];omega
 generalize Y:sqC 4 (f31.body.getD .skip)=T4;simp only[f31,sqC,VP]at Y;simp only[ZZ]at eW;simp only[Zn]at g2 ga;rw[show ZZ W'=_ from eW]at hR;simp only[Zb]at hc;refine Exists.intro ?S (And.intro ?h1 (And.intro ?h2 ?h3))
 case h3 =>
  simp only[f31,sqC,VP,nsS];rw[Y];simp only[go_sem,simprocAttr,a1,hc,a5,hs.tb,g2,ga,G.f,w,hq,hn,SI,a4,gs,g0,hR,ZB,Zf,n0,VN,VW,V7,Vd,Vk,Zb];rfl
 case h1=>rfl
 case h2=>rfl
end
attribute [-go_sem] ZN
theorem HT.quietC{m:Za}{t:LT}(s:HT m t)(nm:List UInt8)(f:FuncId):chg m m (ZN m [.agg (Zn t),.str nm] (.fn f []))=[] :=
 Zb7 (fun l=>l∈t.pl) (fun l b d k x hx=>by
  obtain⟨b',e,_,q⟩:=s.at d;rw[k]at e;cases e;exact q x hx) (fun l d=>by
  obtain⟨_,_,q,_⟩:=s.at d;exact q) (fun l hl=>by
  simp only[Zn,Zg,locs,Vi,Vv,Ud,Vl,Vn,V3,UR]at hl;simp only[LT.pl,Vn,Vg];rcases hl with e|e|e|e
  ·exact .inl e
  ·exact .inr (.inl e)
  ·exact .inr (.inr (.inl e))
  exact .inr (.inr (.inr (.inl e))))
section
variable{x:List Tbl}{g:Za}{lt i n:Nat}{X:List LT}{T:LT}{c:Chg}
theorem Zwe(F:NsH g lt X c)(hi:X[i]?=some T)(ht:FitT T.tbl)(G:c.cls.length≤1000000){ks:List It}:
  ∀(r:List (List UInt8)) (j:Nat) (L:List Col) (jj:Int) (q:Code),YP f31 5 q→r=c.cls.drop j→j≤c.cls.length→jj=(j:Int)→L.length=j→(Xs T.cols (c.cls.take j) L r).1=0 →
  RL K (.run 31 0 (.code q::.lp q (some ([2,4,5,9,10,179,180,181],[])) (g.length+2)::.blk 5 (g.length+2)::ks) [(2,.ptr 0 0),(4,.ptr 2 0),(5,I (i:Int)),(9,.ptr g.length 0),(10,.own (g.length+1) L.length),(179,.rows (SLs c.cls)),(180,I (c.cls.length:Int)),(181,I jj)] (g++[.cells (Zn T),.rows 6 (L.map Zh) true])) =
  R K (.run 31 0 ks [(2,.ptr 0 0),(4,.ptr 2 0),(5,I (i:Int)),(10,.own (g.length+1) (Xs T.cols (c.cls.take j) L r).2.length)] (g++[.cells (Zn T),.rows 6 ((Xs T.cols (c.cls.take j) L r).2.map Zh) true]))
 |[],j,L,jj,q,u,C,hj,l,U,h0=>by
  subst l;have e1:j=c.cls.length:=by have:=congrArg List.length C;simp at this;omega
  have d:¬(j:Int)<(c.cls.length:Int):=by omega
  rw[Xs];have tk:(g++[Blk.cells (Zn T),.rows 6 (L.map Zh) true]).take (g.length+2)=g++[Blk.cells (Zn T),.rows 6 (L.map Zh) true]:=VM (by simp);simp only[go_sem,simprocAttr,f31]at u;subst u;rw[Ze];simp only[go_sem,simprocAttr,d,tk]
  done
 |nm::r,j,L,jj,q,u,C,hj,l,U,h0=>by
  subst l;have d1:j<c.cls.length:=by have:=congrArg List.length C;simp at this;omega
  have d:(j:Int)<(c.cls.length:Int):=by omega
  have h7:=ZQ (i:=j) (n:=c.cls.length) (by omega) (by omega);have E:c.cls[j]?=some nm:=by have:=congrArg (·[0]?) C;simp at this;exact this.symm
  have J:r=c.cls.drop (j+1):=by have:=congrArg List.tail C;simpa[UY]using this
  have W:(SLs c.cls)[j]?=some [.str nm]:=by rw[SLs,Vj,E];rfl
  have ga:=ZW W;have hs:=F.at';have h3:=F.h3;have v:=hs.ht T (Ve hi);have w:g.length=g.length:=rfl;have M:=Y9 T.tbl nm ht.cols;rw[show(T.tbl.cols.map (·.nm))=T.cols.map (·.nm)from rfl]at M;have Y:=fun t=>XO (v.app t).seen [.str nm] [.str nm] rfl;have Z:=fun t=>(v.app t).quietC nm 46;simp only[Zn]at Y Z;have et:c.cls.take (j+1)=c.cls.take j++[nm]:=by rw[Sd,E];rfl
  rw[Xs]at h0 ⊢;by_cases N:ixN nm (T.cols.map (·.nm)) 0<0
  ·rw[Vr N]at h0;simp at h0
  rw[Vm N]at h0 ⊢;obtain⟨p,col,hp,b⟩:=J0 (t:=T.tbl) (n:=nm) N;rw[show(T.tbl.cols.map (·.nm))=T.cols.map (·.nm)from rfl]at hp;have b:T.cols[p]?=some col:=b;rw[hp]at M h0 ⊢;have g3:=Ym b;have g4:(T.cols.map Zh)[p]?=some (Zh col):=by rw[Vj,b];rfl
  simp only[Zh]at g3 g4;cases hd:(c.cls.take j).contains nm
  ·rw[hd]at h0;simp only[V6,UA]at h0 ⊢;rw[Vk,b,Option.toList_some]at h0 ⊢;have P:=Zwe F hi ht G (ks:=ks) r (j+1) (L++[col]) _ q u J (by omega) rfl (by simp[U]) (by rw[et];exact h0);rw[et,Vu,VC,VI]at P;have eC:L.map Zh++[[.str col.nm,I col.kd,.bool col.nl,I col.df.k,I col.df.n,.str col.df.s]]=(L++[col]).map Zh:=by simp[Zh]
   have rm:(j+1)*65≤Zp:=by unfold Zp;omega
   have S:(L.length+1)*65≤Zp:=by unfold Zp;omega
   have tk:∀Q:List Col,(g++[Blk.cells (Zn T),.rows 6 (Q.map Zh) true]).take (g.length+2)=g++[Blk.cells (Zn T),.rows 6 (Q.map Zh) true]:=fun Q=>VM (by simp);have uc:∀Q:List Col,Zi (g.length+2) (Zk (g++[Blk.cells (Zn T),.rows 6 (Q.map Zh) true]))=true:=fun Q=>by
    rw[ZR,ZV];refine VX.2 ⟨Yf F.sh.cl (by omega),Zt.2 fun y hy=>?_⟩;have:y∈Zg (Zn T):=by simpa[Zk,ZA,Zw]using hy
    have:=W8 hs hi y this;omega
   have lo:0<g.length+2∧2<g.length+2:=by omega
   simp only[Zn]at tk uc P ⊢;generalize Xs T.cols (c.cls.take j++[nm]) (L++[col]) r=O at *;simp only[go_sem,simprocAttr,f31]at u;subst u;rw[Ze];simp only[go_sem,simprocAttr,d,h7,W,ga,g3,g4,M,Y,Z,SI,Ss,VN,eC,rm,S,tk,uc,lo,gL hs.tb,gL v.c,gL v.k,gL v.f,gL v.i,ZB,Zf,Vd,Yh,gA0 w,gA w,sA0 w,sA w,X6 w,YL w,Ub,V7,Vk,Vo,Vl,Vi];exact P
  rw[hd]at h0;simp at h0
theorem Zxd(r:NsH g lt X c)(hi:X[i]?=some T)(M:c.kd=15)(hX:X.length≤10)(w:∀U∈X,U.fs.length≤15∧U.is.length≤15)(ht:FitT T.tbl)(N:c.cls.length≤1000000)(h0:(Xs T.cols [] [] c.cls).1=0):
  ∃H a,R K (.run 31 0 [.code (sqC 3 (f31.body.getD .skip))] (nsS x c lt n (i:Int)) g)=some (.agg [a],H)∧SeenX H a (Y2 ((X.map LT.tbl).set i ⟨T.tbl.nm,(Xs T.cols [] [] c.cls).2,T.tbl.key,T.tbl.fgn,T.tbl.idx⟩))∧IsL H a:=by
 have hs:=r.at';have q:=Ve hi;have hT:=hs.ht T q;have O:=(Vb.1 hs.tb).1;have nd:=Xu hs hi;have hz:=w T q;have h3:=r.h3;have P:=fun(ks:List It) Bo hB=>Zwe (ks:=ks) r hi ht N c.cls 0 [] 0 Bo hB rfl (UB _) rfl rfl h0;simp only[Sp,VO,VI]at P;generalize(Xs T.cols [] [] c.cls).2=L at *;generalize b:(⟨T.nm,.own (g.length+1) L.length,[g.length+1],L,T.lk,T.key,.own T.lf T.fs.length,T.lf,T.fs,[],.own T.li T.is.length,T.li,T.is,[]⟩:LW)=W';have eW:ZZ W'=[.str T.nm,.own (g.length+1) L.length,.own T.lk T.key.length,.own T.lf T.fs.length,.own T.li T.is.length]:=by rw[←b];rfl
 generalize C:Blk.rows 5 ((X.map Zn).set i (ZZ W')) true=R5;have Gt:(g.set lt R5)[lt]?=some R5:=Vf O;have Gl:(g.set lt R5).length=g.length:=Vq;have Go:∀l,l≠lt→(g.set lt R5)[l]?=g[l]?:=fun l e=>Vc e.symm;have Q:∀l∈T.pl,l≠lt:=fun l hl e=>hs.ne q (e▸hl);have G:=hs.lo T q;have W:HT (g.set lt R5) T:=hT.frame fun l hl=>Go l (Q l hl);have d:=W.app [.cells (Zn T),.rows 6 (L.map Zh) true];have hW:HW (g.set lt R5++[.cells (Zn T),.rows 6 (L.map Zh) true]) W':=by rw[←b];exact⟨.inr ⟨g.length+1,[],rfl,Dead.nil,.own (gA Gl _ 1) (by simp)⟩,d.k,.own d.f (by simp),.own d.i (by simp),d.fc,d.ic,Dead.nil,Dead.nil⟩
 have et:W'.tbl=⟨T.tbl.nm,L,T.tbl.key,T.tbl.fgn,T.tbl.idx⟩:=by rw[←b];rfl
 have ep:W'.pl=(g.length+1)::(T.lk::T.lf::T.li::(T.fs.filterMap (·.l)++T.is.filterMap (·.l))):=by rw[←b];rfl
 have sub:(T.lk::T.lf::T.li::(T.fs.filterMap (·.l)++T.is.filterMap (·.l))).Sublist T.pl:=.cons _ (SJ _);rw[←et];refine Zc6 (x:=x) (n:=n) (m:=(i:Int)) r hi hX w (by rw[gL Gt,C]) hW (fun l hl e1 _=>by rw[Vh (by omega)];exact Go l e1) (fun p hp=>?_) ?_ (by simp) ?_ (by rw[←b];exact⟨by show T.fs.length<20;omega,by show T.is.length<20;omega⟩) ?_
 ·rw[ep]at hp;rcases Vn.1 hp with h|h
  ·exact .inr (by omega)
  exact .inl (sub.subset h)
 ·rw[ep];exact Vx.2 ⟨fun h=>by have:=G _ (sub.subset h);omega,nd.sublist sub⟩
 ·have lr:∀y∈Zg (ZZ W'),y<g.length+2:=fun y E=>by
   rw[eW]at E;simp only[Zg,locs,Vi,Vv,Ud,Vn,V3,UR]at E;rcases E with e|e|e|e
   ·omega
   ·have:=G T.lk (by simp[LT.pl]);omega
   ·have:=G T.lf (by simp[LT.pl]);omega
   have:=G T.li (by simp[LT.pl]);omega
  have:=Qr (n:=g.length+2) (i:=i) hs r.sh.cl (by omega) lr;rw[C]at this;rw[ZR,ZV,Vu,Gl];refine VX.2 ⟨ZM (Yf r.sh.cl (by simp)) this,Zt.2 fun y E=>?_⟩;have:y∈Zg (Zn T):=by simpa[Zk,ZA,Zw]using E
  have:=W8 hs hi y this;simp;omega
 have J:(X.map Zn)[i]?=some (Zn T):=by rw[Vj,hi];rfl
 have Y:=ZW J;have u:g.length=g.length:=rfl;have Z:=r.c;have v:=r.s;generalize F:sqC 4 (f31.body.getD .skip)=T4;simp only[f31,sqC,VP]at F;simp only[Zn]at J Y P;rw[eW]at C;simp only[Zb]at Z;refine Exists.intro ?S (And.intro ?h1 (And.intro ?h2 ?h3))
 case h3 =>
  simp only[f31,sqC,VP,nsS];rw[F];simp only[go_sem,simprocAttr,M,Z,gL Z,v,hs.tb,J,Y,C,ZB,Zf,Vd,Vk,Zb,gA0 u,gA u,sA0 u,sA u,X6 u,YL u,Vo,Vl,Vi];rw[P _ _ ?hl]
  case hl=>rfl
  simp only[go_sem,simprocAttr,v,gL v,gL hs.tb,sL hs.tb,gA0 u,gA u,J,Y,C,ZB,Zf,Vd,Vk,Zn];rfl
 case h1=>rfl
 case h2=>rfl
end
theorem Zdr{α β:Type}(f:α→β):∀(l:List α) (i:Nat),(l.map f).eraseIdx i=(l.eraseIdx i).map f
 |[],_| _::_,0=>rfl
 |a::l,i+1=>by simp only[Vz,SQ,Zdr f l i]
theorem ZmG(s:SchAt g lt X)(b:Zi g.length (Zk g)=true):∀x∈Zz (X.map Zn),x<g.length:=fun x hx=>by have:x∈ZA (.rows 5 (X.map Zn) true):=hx;exact Zt.1 b x (Y5 s.tb x this)
section
variable{x:List Tbl}{g:Za}{lt i n:Nat}{X:List LT}{T:LT}{c:Chg}
theorem Zx3(f:NsH g lt X c)(hi:X[i]?=some T)(N:c.kd=2)(hX:X.length≤10)(O:∀U∈X,U.fs.length≤15∧U.is.length≤15):
  ∃H a,R K (.run 31 0 [.code (sqC 3 (f31.body.getD .skip))] (nsS x c lt n (i:Int)) g)=some (.agg [a],H)∧SeenX H a (Y2 ((X.map LT.tbl).eraseIdx i))∧IsL H a:=by
 have hs:=f.at';have P:=(Vb.1 hs.tb).1;have v:=(Vb.1 hi).1;have a0:=f.lo.1;have h3:=f.h3;have dl:=Zyv .kT (h:=g) (lc:=lt) (n:=X.length) (m:=i) (rs:=X.map Zn) hs.tb (by simp) (by omega) v (fun row hr=>by obtain⟨a,_,rfl⟩:=VE.1 hr;rfl)
 simp only[Kd.zz,Kd.zr,Kd.dl]at dl;have h7:=ZQ (i:=i) (n:=X.length) (by omega) (by omega);generalize M:X.eraseIdx i=F;have d:F.Sublist X:=by rw[←M];exact Pp _ _
 have Q:F.length=X.length-1:=by rw[←M,SA v]
 have eF:(X.map Zn).eraseIdx i=F.map Zn:=by rw[←M,Zdr]
 rw[eF]at dl;generalize Y:Blk.rows 5 (F.map Zn++[[.str [],.nils,.nils,.nils,.nils]]) true=B at *;generalize u:(g.set lt B).set 0 (.cells [.vw lt X.length 0 (X.length-1)])=G;have Gl:G.length=g.length:=by rw[←u];simp
 have G0:G[0]?=some (.cells [.vw lt X.length 0 (X.length-1)]):=by rw[←u,Vf (by simp;omega)]
 have Gt:G[lt]?=some B:=by rw[←u,Vc (by omega),Vf P]
 have Z:∀l,l≠lt→l≠0→G[l]?=g[l]?:=fun l a b=>by rw[←u,Vc b.symm,Vc a.symm]
 have sw:SchW G (.vw lt X.length 0 (X.length-1)) lt (F.map LT.toW) [[.str [],.nils,.nils,.nils,.nils]]:=by
  have er:(F.map LT.toW).map ZZ=F.map Zn:=by rw[V8];rfl
  refine⟨⟨?_,.inr ?_⟩,fun U q=>?_,?_,rfl⟩
  ·rw[er,Gt,Y]
  ·rw[er,Vu,Vd,Q];simp;omega
  ·obtain⟨V,w,rfl⟩:=VE.1 q;have r:=d.subset w;exact((hs.ht V r).frame fun l hl=>Z l (fun e=>hs.ne r (e▸hl)) (fun e=>by have:=f.lo.2 V r l hl;omega)).toW
  have:(F.map LT.toW).flatMap LW.pl=F.flatMap LT.pl:=by rw[Pq];rfl
  rw[this];exact U7 ((Znp LT.pl d).cons_cons lt) hs.ap
 have uG:Zi G.length (Zk G)=true:=by
  rw[Gl,←u];refine Zb9 (ZM f.sh.cl (Zt.2 fun y k=>?_)) fun y k=>?_
  ·rw[←Y,ZA,Xg]at k;rcases Vg.1 k with k|k
   ·obtain⟨row,C,k⟩:=Yy k;obtain⟨U,q,rfl⟩:=VE.1 C;exact ZmG hs f.sh.cl y (YH (VE.2 ⟨U,d.subset q,rfl⟩) y k)
   simp[Zz,Zg,locs]at k
  have:y=lt:=by simpa[Zg,locs]using k
  omega
 have fl:∀p∈(F.map LT.toW).flatMap LW.pl,3≤p:=fun p W=>by obtain⟨U,q,W⟩:=V1.1 W;obtain⟨V,w,rfl⟩:=VE.1 q;exact f.lo.2 V (d.subset w) p W
 have et:(F.map LT.toW).map LW.tbl=(X.map LT.tbl).eraseIdx i:=by rw[V8,←M,Zdr];rfl
 have key:∃S,get S 2=.ptr 0 0∧get S 4=.ptr 2 0∧R K (.run 31 0 [.code (sqC 3 (f31.body.getD .skip))] (nsS x c lt n (i:Int)) g)=R K (.run 31 0 [.code (sqC 4 (f31.body.getD .skip))] S G):=by
  have hc:=f.c;have E:=f.s;have g1:(g.set lt B)[0]?=some (.cells [.own lt X.length]):=by rw[Vc (by omega)];exact E
  generalize J:sqC 4 (f31.body.getD .skip)=T4;simp only[f31,sqC,VP]at J;simp only[Zb]at hc;refine Exists.intro ?S (And.intro ?h1 (And.intro ?h2 ?h3))
  case h3 =>
   simp only[f31,sqC,VP,nsS];rw[J];simp only[go_sem,simprocAttr,N,hc,E,hs.tb,h7,dl,g1,u,Vd,Vk,Zb];rfl
  case h1=>rfl
  case h2=>rfl
 obtain⟨S,s2,s4,e⟩:=key;obtain⟨H,q1,q2,q3⟩:=Zhh s2 s4 sw G0 ((Z 2 (by omega) (by omega)).trans f.z) uG (by simp;omega) (fun U q=>by obtain⟨V,w,rfl⟩:=VE.1 q;have:=O V (d.subset w);exact⟨by show V.fs.length<20;omega,by show V.is.length<20;omega⟩) (by omega) ⟨by omega,by omega⟩ ⟨fun h=>by have:=fl 0 h;omega,fun h=>by have:=fl 2 h;omega⟩
 exact⟨H,_,e.trans q1,by rw[←et];exact q2,q3⟩
theorem ZrZ(d:NsH g lt X c)(hi:X[i]?=some T)(a0:c.kd=3)(hX:X.length≤10)(w:∀U∈X,U.fs.length≤15∧U.is.length≤15):
  ∃H a,R K (.run 31 0 [.code (sqC 3 (f31.body.getD .skip))] (nsS x c lt n (i:Int)) g)=some (.agg [a],H)∧SeenX H a (Y2 (((X.map LT.tbl).set i ⟨c.nm,T.tbl.cols,T.tbl.key,T.tbl.fgn,T.tbl.idx⟩).map (reT c.tb c.nm)))∧IsL H a:=by
 have hs:=d.at';have C:=(Vb.1 hs.tb).1;have a4:=d.lo.1;have h3:=d.h3;have a1:=Ve hi;have P:=hs.renamed hi c.nm;generalize Q:Blk.rows 5 ((X.map Zn).set i [.str c.nm,.own T.lc T.cols.length,.own T.lk T.key.length,.own T.lf T.fs.length,.own T.li T.is.length]) true=B at *;have lS:(g.set lt B).length=g.length:=Vq;have g0:(g.set lt B)[0]?=some (.cells [.own lt X.length]):=by rw[Vc (by omega)];exact d.s
 have g1:(g.set lt B)[1]?=some (.cells (Zb c)):=by rw[Vc (by omega)];exact d.c
 have gt:(g.set lt B)[lt]?=some B:=Vf C;have u1:Zi g.length (Zk (g.set lt B))=true:=by have:=Qr (n:=g.length) (i:=i) (row:=[.str c.nm,.own T.lc T.cols.length,.own T.lk T.key.length,.own T.lf T.fs.length,.own T.li T.is.length]) hs d.sh.cl (Vw _) (fun y hy=>W8 hs hi y (by simpa[Zn,Zg,locs]using hy));rw[Q]at this;exact ZM d.sh.cl this
 generalize W:X.set i (T.ren c.nm)=Y at *;have E:Y.length=X.length:=by rw[←W];simp
 have l:∀U∈Y,∃V∈X,U.pl=V.pl∧U.fs=V.fs∧U.is=V.is:=fun U b=>by
  rw[←W]at b;rcases VL b with b|rfl
  ·exact⟨U,b,rfl,rfl,rfl⟩
  exact⟨T,a1,rfl,rfl,rfl⟩
 have F:∀U∈Y,U.fs.length≤1000∧(∀y∈Zg (Zn U),y<g.length):=fun U b=>by
  constructor
  ·obtain⟨V,q,_,e,_⟩:=l U b;rw[e];have:=w V q;omega
  intro y hy;obtain⟨k,hk⟩:=Uf.1 b;have:=W8 P hk y hy
  rwa [lS]at this
 have a2:(lt::Y.map (·.lf)).Nodup:=U7 ((ZiH Y).cons_cons lt) P.ap;have r:∀p∈Y.map (·.lf),3≤p:=fun p G=>by obtain⟨U,b,e⟩:=VE.1 G;obtain⟨V,q,e1,_⟩:=l U b;exact d.lo.2 V q p (by rw[←e1,←e];simp[LT.pl])
 obtain⟨g',p1,p2,p3,p4,p5⟩:=ZzY (lt:=lt) (N:=g.length) (c:=c) (X:=Y) E (by omega) h3 C Y 0 (g.set lt B) 0 rfl (UB _) rfl lS u1 (by rw[gt,←Q,←W,V9];rfl)
  (fun U b=>⟨(P.ht U b).f,(F U b).1⟩) a2 (fun U b=>(F U b).2) g1 (fun h=>by have:=r 1 h;omega)
 have s2:=P.re p3 p4;have k0:g'[0]?=some (.cells [.own lt X.length]):=(p3 0 fun h=>by have:=r 0 h;omega).trans g0;have k2:g'[2]?=some (.cells [.nils]):=(p3 2 fun h=>by have:=r 2 h;omega).trans (by rw[Vc (by omega)];exact d.z);have sw:=s2.toW;rw[Vd,E]at sw;have fl:∀p∈((Y.map (LT.re c.tb c.nm)).map LT.toW).flatMap LW.pl,3≤p:=fun p G=>by obtain⟨U,b,G⟩:=V1.1 G;obtain⟨V,q,rfl⟩:=VE.1 b;obtain⟨v,u,rfl⟩:=VE.1 q;obtain⟨Z,hZ,e1,_⟩:=l v u;have J:p∈(LT.re c.tb c.nm v).pl:=G;rw[LT.re_pl,e1]at J;exact d.lo.2 Z hZ p J
 have et:((Y.map (LT.re c.tb c.nm)).map LT.toW).map LW.tbl=((X.map LT.tbl).set i ⟨c.nm,T.tbl.cols,T.tbl.key,T.tbl.fgn,T.tbl.idx⟩).map (reT c.tb c.nm):=by rw[←ZnH,←W,V8];rfl
 have key:R K (.run 31 0 [.code (sqC 3 (f31.body.getD .skip))] (nsS x c lt n (i:Int)) g)=R K (.run 31 0 [.code (sqC 4 (f31.body.getD .skip))] [(2,.ptr 0 0),(4,.ptr 2 0)] g'):=by
  have g2:(X.map Zn)[i]?=some (Zn T):=by rw[Vj,hi];rfl
  have ga:=ZW g2;have hc:=d.c;have a3:=d.s;generalize M:sqC 4 (f31.body.getD .skip)=T4;simp only[f31,sqC,VP]at M;simp only[Zn]at g2 ga;simp only[Zb]at hc g1;have a5:(X.map Zn).length=X.length:=by simp
  have O:=gt;rw[←Q]at O;simp only[f31,sqC,VP,nsS];rw[M];simp only[go_sem,simprocAttr,a0,hc,a3,hs.tb,g2,ga,Q,g0,g1,O,Vq,Vd,Vk,Zb];rw[p5 _ _ ?_]
  rotate_left
  ·rfl
  simp only[go_sem,simprocAttr]
  done
 obtain⟨H,q1,q2,q3⟩:=Zhh (S:=[(2,.ptr 0 0),(4,.ptr 2 0)]) rfl rfl sw k0 k2 (by rw[p1];exact p2) (by simp;omega) (fun U b=>by obtain⟨V,q,rfl⟩:=VE.1 b;obtain⟨v,u,rfl⟩:=VE.1 q;obtain⟨Z,hZ,_,e2,e3⟩:=l v u;have:=w Z hZ;exact⟨by show(v.fs.map _).length<20;rw[Vd,e2];omega,by show v.is.length<20;rw[e3];omega⟩) (by omega) ⟨by omega,by omega⟩ ⟨fun h=>by have:=fl 0 h;omega,fun h=>by have:=fl 2 h;omega⟩
 exact⟨H,_,key.trans q1,by rw[←et];exact q2,q3⟩
theorem ZrL(q:NsH g lt X c)(N:c.kd=1)(hX:X.length≤10)(O:∀U∈X,U.fs.length≤15∧U.is.length≤15)(P:SmT c.new)(a8:c.new.fgn.length≤15∧c.new.idx.length≤15){m:Int}:
  ∃H a,R K (.run 31 0 [.code (sqC 3 (f31.body.getD .skip))] (nsS x c lt n m) g)=some (.agg [a],H)∧SeenX H a (Y2 (X.map LT.tbl++[c.new]))∧IsL H a:=by
 have hs:=q.at';have W:=(Vb.1 hs.tb).1;have a9:=q.lo.1;have h3:=q.h3;have cp:=Zkh c.new [] (by simp) (by simpa using P);have rm:(X.length+1)*113≤Zp:=by unfold Zp;omega
 generalize Y:Blk.rows 5 ((X++[WB (g.length+3) c.new]).map Zn) true=B;generalize d:(g.set lt B).set 0 (.cells [.own lt (X.length+1)])=r;have C:r.length=g.length:=by rw[←d];simp
 have Z:r[lt]?=some B:=by rw[←d,Vc (by omega),Vf W]
 have a0:r[0]?=some (.cells [.own lt (X.length+1)]):=by rw[←d,Vf (by simp;omega)]
 have E:∀l,l≠lt→l≠0→r[l]?=g[l]?:=fun l a b=>by rw[←d,Vc b.symm,Vc a.symm]
 generalize v:(.cells [.rows [Zc c.new]]::.cells [.own (cqL (g.length+3) c.new) 1]::.cells [.own (cqL (g.length+3) c.new) 1]::cqH (g.length+3) c.new []:Za)=Q;have s2:SchAt (r++Q) lt (X++[WB (g.length+3) c.new]):=by
  refine hs.grow (by rw[gL Z,Y]) (fun l hl F=>?_) ?_ (fun l hl=>?_) ?_
  ·obtain⟨T,hT,a1⟩:=V1.1 F;rw[Vh (by omega)];exact E l (fun e=>(Vx.1 hs.ap).1 (e▸F)) (fun e=>by have:=q.lo.2 T hT l a1;omega)
  ·have:=Zhg (n:=g.length+3) c.new (pre:=r++[.cells [.rows [Zc c.new]],.cells [.own (cqL (g.length+3) c.new) 1],.cells [.own (cqL (g.length+3) c.new) 1]]) (.rows 5 ((cqX (g.length+3) c.new []).map Zn) true::Wv (g.length+3+(Yz (g.length+3) c.new).length+1) []) (by simp[C]);rw[Vo]at this;rw[←v];exact this
  ·rw[Qh,U3]at hl;omega
  rw[Qh];exact Pn
 have cl:=(Zq9 (g.length+3) c.new []).1;have lQ:(r++Q).length=g.length+3+(cqH (g.length+3) c.new []).length:=by rw[←v];simp[C];omega
 have a7:cqL (g.length+3) c.new<g.length+3+(cqH (g.length+3) c.new []).length:=by simp only[cqL,cqH,Vu,VC];omega
 have uQ:Zi (r++Q).length (Zk (r++Q))=true:=by
  rw[lQ,ZR,ZV];refine VX.2 ⟨?_,?_⟩
  ·rw[←d];refine Zb9 (ZM (Yf q.sh.cl (by omega)) (Zt.2 fun y k=>?_)) fun y k=>?_
   ·rw[←Y,Ua,ZA,Xg]at k;rcases Vg.1 k with k|k
    ·have:=ZmG hs q.sh.cl y k;omega
    rw[Vz,VO,Y4]at k;simp only[Zz,WA,Zg,locs,Vi,Vv,Ud,Vn,V3,UR]at k;have:(cqH (g.length+3) c.new []).length=(Yz (g.length+3) c.new).length+1:=by simp[cqH,Wv]
    rw[this,Y0];omega
   have:y=lt:=by simpa[Zg,locs]using k
   omega
  rw[←v];refine Zt.2 fun y k=>?_;have a2:y=cqL (g.length+3) c.new∨y∈Zk (cqH (g.length+3) c.new []):=by simpa[Zk,ZA,Zg,locs]using k
  rcases a2 with e|e
  ·omega
  have:=cl y e;omega
 have sw:=s2.toW;rw[Vu,VC,VI,VZ]at sw;have et:((X++[WB (g.length+3) c.new]).map LT.toW).map LW.tbl=X.map LT.tbl++[c.new]:=by rw[V8,Ua];rw[show[WB (g.length+3) c.new].map (LW.tbl∘LT.toW)=[c.new]from by simp[Function.comp,LT.toW_tbl,ZeP]];rfl
 have fl:∀p∈((X++[WB (g.length+3) c.new]).map LT.toW).flatMap LW.pl,3≤p:=fun p M=>by
  obtain⟨U,hU,M⟩:=V1.1 M;obtain⟨V,f,rfl⟩:=VE.1 hU;rcases Vg.1 f with f|f
  ·exact q.lo.2 V f p M
  rw[VH]at f;subst f;have a3:p∈(WB (g.length+3) c.new).pl:=M;rw[Qh,U3]at a3;omega
 have key:∃S,get S 2=.ptr 0 0∧get S 4=.ptr 2 0∧R K (.run 31 0 [.code (sqC 3 (f31.body.getD .skip))] (nsS x c lt n m) g)=R K (.run 31 0 [.code (sqC 4 (f31.body.getD .skip))] S (r++Q)):=by
  have w:g.length=g.length:=rfl;have hc:=q.c;have u:=q.s;have al:(WA (g.length+3) c.new).length=5:=rfl;have lS:(g.set lt B).length=g.length:=Vq;have G:(g.set lt B)[0]?=some (.cells [.own lt X.length]):=by rw[Vc (by omega)];exact u
  have gq:(cqH (g.length+3) c.new [])[cqL (g.length+3) c.new-(g.length+3)]?=some (.rows 5 [WA (g.length+3) c.new] true):=by simp only[cqH,cqL,cqX,XC,Vz,VO,Y4];rw[Uw,Vy (Vw _),UJ];rfl
  generalize J:sqC 4 (f31.body.getD .skip)=T4;simp only[f31,sqC,VP]at J;simp only[ZX,Zc,Vz,VO,VI,Ug]at cp;simp only[Zc]at v;simp only[Zb]at hc;have a4:∀h:Za,h.length=g.length→(h++Q)[cqL (g.length+3) c.new]?=some (.rows 5 [WA (g.length+3) c.new] true):=fun h hh=>by
   have e:cqL (g.length+3) c.new=g.length+(3+(cqL (g.length+3) c.new-(g.length+3))):=by simp only[cqL];omega
   rw[e,gA hh,←v,show 3+(cqL (g.length+3) c.new-(g.length+3))=(cqL (g.length+3) c.new-(g.length+3))+1+1+1 by omega];simpa using gq
  have a5:=a4 g rfl;have eB:X.map Zn++[WA (g.length+3) c.new]=(X++[WB (g.length+3) c.new]).map Zn:=by simp[Y4]
  refine Exists.intro ?S (And.intro ?h1 (And.intro ?h2 ?h3))
  case h3 =>
   simp only[f31,sqC,VP,nsS];rw[J];simp only[go_sem,simprocAttr,N,hc,u,hs.tb,cp,Zkq,ZjU,V4,v,a5,al,rm,eB,Y,gL u,gL hs.tb,sL hs.tb,gL G,sL G,d,ZB,Zf,gA0 w,gA w,sA0 w,sA w,X6 w,YL w,Vd,Vk,Zb,Vo,Vl,Vi];rfl
  case h1=>rfl
  case h2=>rfl
 obtain⟨S,a6,s4,e⟩:=key;obtain⟨H,q1,q2,q3⟩:=Zhh a6 s4 sw (gL a0 _) (by rw[Vh (by omega),E 2 (by omega) (by omega)];exact q.z) uQ (by simp;omega) (fun U hU=>by
  obtain⟨V,f,rfl⟩:=VE.1 hU;rcases Vg.1 f with f|f
  ·have:=O V f;exact⟨by show V.fs.length<20;omega,by show V.is.length<20;omega⟩
  rw[VH]at f;subst f;exact⟨by show(Qc _ _ _).length<20;rw[Jo];omega,by show(Qm _ _ _).length<20;rw[Jm];omega⟩) (by rw[lQ];omega) ⟨by omega,by omega⟩ ⟨fun h=>by have:=fl 0 h;omega,fun h=>by have:=fl 2 h;omega⟩
 exact⟨H,_,e.trans q1,by rw[←et];exact q2,q3⟩
end
section
variable{x:List Tbl}{g:Za}{lt i n:Nat}{X:List LT}{T:LT}{c:Chg}
set_option maxHeartbeats 4000000 in
theorem ZlF(hs:SchAt g lt X)(hi:X[i]?=some T)(ht:FitT T.tbl){j:Nat}{col C:Col}(hk:c.kd=7∧C={col with kd:=c.col.kd,df:=QU col.df c.col.kd}∨c.kd=8∧C={col with nl:=true}∨c.kd=9∧C={col with nl:=false,df:=if col.df.k=0 then c.col.df else col.df}∨c.kd=10∧C={col with df:=c.col.df})(h0:ixN c.nm (T.cols.map (·.nm)) 0=(j:Int))(hj:T.cols[j]?=some col):
  R K (.call 73 [.optr lt X.length i 0,.agg (Zb c)] g)=some (.tup [],g.set T.lc (.rows 6 ((T.cols.set j C).map Zh) true)++[.cells (Zb c)]):=by
 have E:=Ve hi;have q:=hs.ht T E;have hP:=(Vb.1 q.c).1;have r:g.length=g.length:=rfl;have J:(X.map Zn)[i]?=some (Zn T):=by rw[Vj,hi];rfl
 have P:=ZW J;have Q:=Y9 T.tbl c.nm ht.cols;rw[show(T.tbl.cols.map (·.nm))=T.cols.map (·.nm)from rfl,h0]at Q;have S:=fun t=>XO (q.app t).seen [.str c.nm] [.str c.nm] rfl;have U:=fun t=>(q.app t).quietC c.nm 46;have ne:lt≠T.lc:=fun e=>hs.ne E (by rw[e];simp[LT.pl]);have W:∀b:Blk,(g.set T.lc b)[lt]?=some (.rows 5 (X.map Zn) true):=fun b=>by rw[Vc ne.symm];exact hs.tb
 have M:∀b:Blk,(g.set T.lc b)[T.lc]?=some b:=fun b=>Vf hP;have F:∀b:Blk,(g.set T.lc b).length=g.length:=fun b=>Vq;have ss:∀b b':Blk,(g.set T.lc b).set T.lc b'=g.set T.lc b':=fun b b'=>Uq ..;have Y:=Ym hj;have Z:(T.cols.map Zh)[j]?=some (Zh col):=by rw[Vj,hj];rfl
 have jl:=(Vb.1 hj).1;have sC:∀(a:List UInt8) (b:Int) (d:Bool) (e f:Int) (s:List UInt8),(T.cols.map Zh).set j [.str a,I b,.bool d,I e,I f,.str s]=(T.cols.set j ⟨a,b,d,⟨e,f,s⟩⟩).map Zh:=fun a b d e f s=>by rw[V9];rfl
 have sD:∀(u v:Col),(T.cols.set j u).set j v=T.cols.set j v:=fun u v=>Uq ..;have N:∀u:Col,((T.cols.set j u).map Zh)[j]?=some (Zh u):=fun u=>by rw[Vj,Vf jl];rfl
 have sE:∀(w:Col) (a:List UInt8) (b:Int) (d:Bool) (e f:Int) (s:List UInt8),((T.cols.set j w).map Zh).set j [.str a,I b,.bool d,I e,I f,.str s]=(T.cols.set j ⟨a,b,d,⟨e,f,s⟩⟩).map Zh:=fun w a b d e f s=>by rw[←sD w ⟨a,b,d,⟨e,f,s⟩⟩,V9 (l:=T.cols.set j w)];rfl
 have G:∀u:Col,at? ((T.cols.set j u).map Zh) (j:Int)=some (Zh u):=fun u=>ZW (N u);have O:=Znl col.df.k col.df.n col.df.s c.col.kd;rw[Val.eta,Zn8]at O;simp only[enc]at O;simp only[Zn]at J P S U;simp only[Zh]at Y Z N G;have hz:(col.df.k=0)=((col.df.k==0)=true):=by simp
 rcases hk with⟨p,rfl⟩|⟨p,rfl⟩|⟨p,rfl⟩|⟨p,rfl⟩
 all_goals
  cases dk:(col.df.k==0)
  all_goals
   try simp only[hz,dk,V7,V6,UA]
   rw[Zl5];simp only[go_sem,simprocAttr,f73,p,hs.tb,gL hs.tb,J,P,S,Q,U,Y,Z,N,G,sC,sE,ss,M,W,gL (W _),gL (M _),sL (M _),F,gL q.c,sL q.c,gL q.k,gL q.f,gL q.i,ZB,Zf,SI,Ss,VN,VW,V7,gA0 r,gA r,sA0 r,sA r,gA0 (F _),gA (F _),sA0 (F _),sA (F _),X6 r,YL r,Vd,Vq,Vk,Zb,Vo,Vl,Vi,O,dk]
end
end Go.Ab
