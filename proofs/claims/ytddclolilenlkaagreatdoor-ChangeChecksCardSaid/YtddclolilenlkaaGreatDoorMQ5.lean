/- What is proved: contracts of the program's and the reference's functions in the evaluator, and plain laws on them. Conditions: as each states. -/
import Derived.Test.YtddclolilenlkaaGreatDoorMQ4
set_option linter.unusedSimpArgs false
set_option linter.unusedSectionVars false
set_option linter.unusedVariables false
set_option maxRecDepth 100000
namespace Go.Ab
open Go Go.Proofs Go.Proofs.Tryz
variable{col:Col}{x:List Tbl}
attribute [-go_sem] Zy Zs ZH Z1 ZL Yd Z0 ZN
section
variable{x:List Tbl}{g:Za}{lt i n:Nat}{X:List LT}{T:LT}{c:Chg}
theorem Zzb(hs:SchAt g lt X)(hi:X[i]?=some T)(ht:FitT T.tbl)(r:c.kd=5){j:Nat}(h0:ixN c.nm (T.cols.map (·.nm)) 0=(j:Int))(hj:T.cols[j]?=some col):
  R K (.call 73 [.optr lt X.length i 0,.agg (Zb c)] g)=some (.tup [],(g.set T.lc (.rows 6 ((T.cols.eraseIdx j).map Zh++[[.str [],I 0,.bool false,I 0,I 0,.str []]]) true)).set lt (.rows 5 ((X.map Zn).set i [.str T.nm,.vw T.lc T.cols.length 0 (T.cols.length-1),.own T.lk T.key.length,.own T.lf T.fs.length,.own T.li T.is.length]) true)++[.cells (Zb c)]):=by
 have y:=Ve hi;have p:=hs.ht T y;have S:=(Vb.1 p.c).1;have q:g.length=g.length:=rfl;have C:(X.map Zn)[i]?=some (Zn T):=by rw[Vj,hi];rfl
 have H:=ZW C;have J:=Y9 T.tbl c.nm ht.cols;rw[show(T.tbl.cols.map (·.nm))=T.cols.map (·.nm)from rfl,h0]at J;have M:=fun t=>XO (p.app t).seen [.str c.nm] [.str c.nm] rfl;have N:=fun t=>(p.app t).quietC c.nm 46;have ne:lt≠T.lc:=fun e=>hs.ne y (by rw[e];simp[LT.pl]);have D:∀b:Blk,(g.set T.lc b)[lt]?=some (.rows 5 (X.map Zn) true):=fun b=>by rw[Vc ne.symm];exact hs.tb
 have O:∀b:Blk,(g.set T.lc b)[T.lc]?=some b:=fun b=>Vf S;have A:∀b:Blk,(g.set T.lc b).length=g.length:=fun b=>Vq;have ss:∀b b':Blk,(g.set T.lc b).set T.lc b'=g.set T.lc b':=fun b b'=>Uq ..;have U:=Ym hj;have W:(T.cols.map Zh)[j]?=some (Zh col):=by rw[Vj,hj];rfl
 have P:=(Vb.1 hj).1;have sC:∀(a:List UInt8) (b:Int) (d:Bool) (e f:Int) (s:List UInt8),(T.cols.map Zh).set j [.str a,I b,.bool d,I e,I f,.str s]=(T.cols.set j ⟨a,b,d,⟨e,f,s⟩⟩).map Zh:=fun a b d e f s=>by rw[V9];rfl
 have Y:∀(u v:Col),(T.cols.set j u).set j v=T.cols.set j v:=fun u v=>Uq ..;have Q:∀u:Col,((T.cols.set j u).map Zh)[j]?=some (Zh u):=fun u=>by rw[Vj,Vf P];rfl
 have sE:∀(w:Col) (a:List UInt8) (b:Int) (d:Bool) (e f:Int) (s:List UInt8),((T.cols.set j w).map Zh).set j [.str a,I b,.bool d,I e,I f,.str s]=(T.cols.set j ⟨a,b,d,⟨e,f,s⟩⟩).map Zh:=fun w a b d e f s=>by rw[←Y w ⟨a,b,d,⟨e,f,s⟩⟩,V9 (l:=T.cols.set j w)];rfl
 have E:∀u:Col,at? ((T.cols.set j u).map Zh) (j:Int)=some (Zh u):=fun u=>ZW (Q u);have F:=ht.cols;have dl:=Zyv .kC (h:=g++[.cells (Zb c)]) (lc:=T.lc) (n:=T.cols.length) (m:=j) (rs:=T.cols.map Zh) (gL p.c _) (by simp) F P (fun row Z=>by obtain⟨a,_,rfl⟩:=VE.1 Z;rfl)
 simp only[Kd.zz,Kd.zr,Kd.dl]at dl;have h7:=ZQ (i:=j) (n:=T.cols.length) (by omega) (by have:T.tbl.cols.length=T.cols.length:=rfl;omega);rw[Zdr,sL p.c]at dl;simp only[Zn]at C H M N;simp only[Zh]at U W Q E;simp only[Zb,r]at dl;rw[Zl5];simp only[go_sem,simprocAttr,f73,r,hs.tb,gL hs.tb,C,H,M,J,N,dl,h7,O,D,gL (D _),gL (O _),sL (D _),A,gL p.c,gL p.k,gL p.f,gL p.i,ZB,Zf,SI,Ss,VN,VW,V7,gA0 q,gA q,sA0 q,sA q,gA0 (A _),gA (A _),sA0 (A _),sA (A _),X6 q,YL q,Vd,Vq,Vk,Zb,Vo,Vl,Vi]
theorem Zk7{G:Za}(hg:NsH g lt X c)(hi:X[i]?=some T)(b:c.kd=5∨c.kd=6∨c.kd=7∨c.kd=8∨c.kd=9∨c.kd=10)(q:R K (.call 73 [.optr lt X.length i 0,.agg (Zb c)] g)=some (.tup [],G))(r:g.length≤G.length)(u:G[0]?=g[0]?):
  ∃S,get S 2=.ptr 0 0∧get S 4=.ptr 2 0∧R K (.run 31 0 [.code (sqC 3 (f31.body.getD .skip))] (nsS x c lt n (i:Int)) g)=R K (.run 31 0 [.code (sqC 4 (f31.body.getD .skip))] S G):=by
 have hs:=hg.at';have v:=(Vb.1 hs.tb).1;have e:(X.map Zn)[i]?=some (Zn T):=by rw[Vj,hi];rfl
 have k:=ZW e;have w:=Zuj (F:=R K) (N:=g.length) rfl hg.sh.cl (by simp[Zg,locs,Wn,Zi];omega) q r;have hn:=ZeA (h:=g) (h':=G) (l:=0) (by rw[u,hg.s];simp[eqB,eqL,eqA]) (List.range g.length);have m:=hg.sh.quiet [];rw[Vv]at m;have p:=hg.c;have f:=hg.s;generalize d:sqC 4 (f31.body.getD .skip)=y;simp only[f31,sqC,VP]at d;simp only[Zn]at e k;rcases b with b|b|b|b|b|b
 all_goals
  simp only[Zb,b]at p w;refine Exists.intro ?_ (And.intro ?_ (And.intro ?_ ?_))
  rotate_left 3
  ·simp only[f31,sqC,VP,nsS];rw[d];simp only[go_sem,simprocAttr,b,p,f,hs.tb,e,k,w,hn,m,ZB,Zf,SI,VN,VW,V7,Vd,Vk,Zb];rfl
  ·rfl
  rfl
end
theorem ZzN{kc lt n i lf N s:Nat}{c:Chg}{fs:List LF}(hn:fs.length=s)(P:s≤1000000)(Q:kc<N)(S:lt<N):
  ∀(r:List LF) (j:Nat) (g:Za) (jj:Int),r=fs.drop j→j≤fs.length→jj=(j:Int)→g.length=N→Zi N (Zk g)=true→g[lf]?=some (.rows 3 (fs.map ZF) true) →
  (∀a∈r,∃l,a.l=some l∧g[l]?=some (.rows 1 (SLs a.f.cols) true)∧a.f.cols.length≤1000000)→(lf::r.filterMap (·.l)).Nodup →
  ∃g':Za,g'.length=N∧Zi N (Zk g')=true∧(∀l,l∉r.filterMap (·.l)→g'[l]?=g[l]?)∧(∀a∈r,∀l,a.l=some l→g'[l]?=some (.rows 1 (SLs (Yv c.nm c.nm2 a.f.cols)) true)) ∧
  ∀(ks:List It) (A:Code),YP f73 1 A→RL K (.run 73 N (.code A::.lp A (some ([0,3,53,54,55],[])) (N+1)::.blk 1 (N+1)::ks) [(0,.optr lt n i 0),(3,.ptr N 0),(53,.own lf s),(54,I (s:Int)),(55,I jj)] (g++[.cells (Zb c)])) =
  R K (.run 73 N ks [(0,.optr lt n i 0),(3,.ptr N 0)] (g'++[.cells (Zb c)]))
 |[],j,g,jj,E,hj,u,hg,m,p,v,w=>by
  subst u;refine⟨g,hg,m,fun _ _=>rfl,fun a ha=>by simp at ha,fun ks A C=>?_⟩;have U:j=s:=by have:=congrArg List.length E;simp at this;omega
  have d:¬(j:Int)<(s:Int):=by omega
  have tk:(g++[Blk.cells (Zb c)]).take (N+1)=g++[.cells (Zb c)]:=VM (by simp;omega);simp only[go_sem,simprocAttr,f73]at C;subst C;rw[Ze];simp only[go_sem,simprocAttr,d,tk]
  done
 |a::r,j,g,jj,E,hj,u,hg,m,p,v,w=>by
  subst u;have d1:j<fs.length:=by have:=congrArg List.length E;simp at this;omega
  have d:(j:Int)<(s:Int):=by omega
  have h7:=ZQ (i:=j) (n:=s) (by omega) (by omega);have W:fs[j]?=some a:=by have:=congrArg (·[0]?) E;simp at this;exact this.symm
  have Y:r=fs.drop (j+1):=by have:=congrArg List.tail E;simpa[UY]using this
  obtain⟨k,y,q,Z⟩:=v a VV;have F:k<N:=by rw[←hg];exact(Vb.1 q).1
  have fm:(a::r).filterMap (·.l)=k::r.filterMap (·.l):=by simp[y]
  rw[fm]at w;obtain⟨n1,n2⟩:=Vx.1 w;obtain⟨n3,n4⟩:=Vx.1 n2;have n5:k≠lf:=fun e=>n1 (e▸VV);have H:(g.set k (.rows 1 (SLs (Yv c.nm c.nm2 a.f.cols)) true)).length=N:=by rw[Vq];exact hg
  have J:Zi N (Zk (g.set k (.rows 1 (SLs (Yv c.nm c.nm2 a.f.cols)) true)))=true:=XK m (Zv _);obtain⟨g',p1,p2,p3,p4,O⟩:=ZzN (c:=c) (lt:=lt) (n:=n) (i:=i) hn P Q S r (j+1) (g.set k (.rows 1 (SLs (Yv c.nm c.nm2 a.f.cols)) true)) _ Y (by omega) rfl H J
   (by rw[Vc n5];exact p)
   (fun b D=>by obtain⟨l,U,e2,e3⟩:=v b (VD _ D);refine⟨l,U,?_,e3⟩;rw[Vc fun e=>n3 (by rw[e];exact VG.2 ⟨b,D,U⟩)];exact e2)
   (Vx.2 ⟨fun h=>n1 (VD _ h),n4⟩)
  refine⟨g',p1,p2,fun l hl=>?_,fun b D l e=>?_,fun ks A C=>?_⟩
  ·rw[fm]at hl;rw[p3 l fun h=>hl (VD _ h),Vc fun e=>hl (by rw[←e];exact VV)]
  ·rcases Vn.1 D with rfl|D
   ·rw[y]at e;cases e;rw[p3 k n3,Vf (by rw[hg];exact F)]
   exact p4 b D l e
  have O:=O ks A C;have gr:(fs.map ZF)[j]?=some (ZF a):=by rw[Vj,W];rfl
  have ga:=ZW gr;simp only[ZF,y,Yc]at gr ga;have a0:Zi (g++[Blk.cells (Zb c),.cells [.str a.f.nm,.own k a.f.cols.length,.str a.f.tb]]).length (Zk (g++[Blk.cells (Zb c),.cells [.str a.f.nm,.own k a.f.cols.length,.str a.f.tb]]))=true:=by rw[ZR,ZV];refine VX.2 ⟨Yf m (by simp[hg]),?_⟩;show Zi _ [k]=true;simp[Zi,hg];omega
  have rn:=Zkt (.inr ⟨rfl,rfl⟩) (h:=g++[Blk.cells (Zb c),.cells [.str a.f.nm,.own k a.f.cols.length,.str a.f.tb]]) c.nm c.nm2 Z (gL q _) a0;rw[sL q]at rn;have tk:(g.set k (.rows 1 (SLs (Yv c.nm c.nm2 a.f.cols)) true)++[Blk.cells (Zb c),.cells [.str a.f.nm,.own k a.f.cols.length,.str a.f.tb]]).take (N+1)=g.set k (.rows 1 (SLs (Yv c.nm c.nm2 a.f.cols)) true)++[.cells (Zb c)]:=by rw[YL H];rfl
  have M:Zi (N+1) (Zk (g.set k (.rows 1 (SLs (Yv c.nm c.nm2 a.f.cols)) true)++[Blk.cells (Zb c)]))=true:=by rw[ZR,ZV];exact VX.2 ⟨Yf J (by omega),rfl⟩
  have a1:kc<N+1:=by omega
  have a2:lt<N+1:=by omega
  have a3:lf<N+1:=by have:=(Vb.1 p).1;omega
  have a4:N<N+1:=by omega
  simp only[Zb]at rn tk M O ⊢;simp only[go_sem,simprocAttr,f73]at C;subst C;rw[Ze];simp only[go_sem,simprocAttr,d,h7,hg,gL p,gL q,gr,ga,hn,tk,M,a1,a2,a3,a4,Vd,gA0 hg,gA hg,sA0 hg,sA hg,YL hg,Yh,Vk,Vo,Vl,Vi,Zb,rn];rw[Vr (by omega)];exact O
theorem Zz5{kc lt n i lf N q:Nat}{c:Chg}{fs:List LI}(hn:fs.length=q)(O:q≤1000000)(P:kc<N)(Q:lt<N):
  ∀(r:List LI) (j:Nat) (g:Za) (jj:Int),r=fs.drop j→j≤fs.length→jj=(j:Int)→g.length=N→Zi N (Zk g)=true→g[lf]?=some (.rows 3 (fs.map ZJ) true) →
  (∀a∈r,∃l,a.l=some l∧g[l]?=some (.rows 1 (SLs a.x.cols) true)∧a.x.cols.length≤1000000)→(lf::r.filterMap (·.l)).Nodup →
  ∃g':Za,g'.length=N∧Zi N (Zk g')=true∧(∀l,l∉r.filterMap (·.l)→g'[l]?=g[l]?)∧(∀a∈r,∀l,a.l=some l→g'[l]?=some (.rows 1 (SLs (Yv c.nm c.nm2 a.x.cols)) true)) ∧
  ∀(ks:List It) (y:Code),YP f73 3 y→RL K (.run 73 N (.code y::.lp y (some ([3,70,71,72],[])) (N+1)::.blk 3 (N+1)::ks) [(3,.ptr N 0),(70,.own lf q),(71,I (q:Int)),(72,I jj)] (g++[.cells (Zb c)])) =
  R K (.run 73 N ks [] (g'++[.cells (Zb c)]))
 |[],j,g,jj,D,hj,s,hg,k,m,u,v=>by
  subst s;refine⟨g,hg,k,fun _ _=>rfl,fun a ha=>by simp at ha,fun ks y A=>?_⟩;have S:j=q:=by have:=congrArg List.length D;simp at this;omega
  have d:¬(j:Int)<(q:Int):=by omega
  have tk:(g++[Blk.cells (Zb c)]).take (N+1)=g++[.cells (Zb c)]:=VM (by simp;omega);simp only[go_sem,simprocAttr,f73]at A;subst A;rw[Ze];simp only[go_sem,simprocAttr,d,tk]
  done
 |a::r,j,g,jj,D,hj,s,hg,k,m,u,v=>by
  subst s;have d1:j<fs.length:=by have:=congrArg List.length D;simp at this;omega
  have d:(j:Int)<(q:Int):=by omega
  have h7:=ZQ (i:=j) (n:=q) (by omega) (by omega);have U:fs[j]?=some a:=by have:=congrArg (·[0]?) D;simp at this;exact this.symm
  have W:r=fs.drop (j+1):=by have:=congrArg List.tail D;simpa[UY]using this
  obtain⟨f,w,p,Y⟩:=u a VV;have E:f<N:=by rw[←hg];exact(Vb.1 p).1
  have fm:(a::r).filterMap (·.l)=f::r.filterMap (·.l):=by simp[w]
  rw[fm]at v;obtain⟨n1,n2⟩:=Vx.1 v;obtain⟨n3,n4⟩:=Vx.1 n2;have n5:f≠lf:=fun e=>n1 (e▸VV);have F:(g.set f (.rows 1 (SLs (Yv c.nm c.nm2 a.x.cols)) true)).length=N:=by rw[Vq];exact hg
  have H:Zi N (Zk (g.set f (.rows 1 (SLs (Yv c.nm c.nm2 a.x.cols)) true)))=true:=XK k (Zv _);obtain⟨g',p1,p2,p3,p4,M⟩:=Zz5 (c:=c) (lt:=lt) (n:=n) (i:=i) hn O P Q r (j+1) (g.set f (.rows 1 (SLs (Yv c.nm c.nm2 a.x.cols)) true)) _ W (by omega) rfl F H
   (by rw[Vc n5];exact m)
   (fun b C=>by obtain⟨l,S,e2,e3⟩:=u b (VD _ C);refine⟨l,S,?_,e3⟩;rw[Vc fun e=>n3 (by rw[e];exact VG.2 ⟨b,C,S⟩)];exact e2)
   (Vx.2 ⟨fun h=>n1 (VD _ h),n4⟩)
  refine⟨g',p1,p2,fun l Z=>?_,fun b C l e=>?_,fun ks y A=>?_⟩
  ·rw[fm]at Z;rw[p3 l fun h=>Z (VD _ h),Vc fun e=>Z (by rw[←e];exact VV)]
  ·rcases Vn.1 C with rfl|C
   ·rw[w]at e;cases e;rw[p3 f n3,Vf (by rw[hg];exact E)]
   exact p4 b C l e
  have M:=M ks y A;have gr:(fs.map ZJ)[j]?=some (ZJ a):=by rw[Vj,U];rfl
  have ga:=ZW gr;simp only[ZJ,w,Yc]at gr ga;have a0:Zi (g++[Blk.cells (Zb c),.cells [.str a.x.nm,.own f a.x.cols.length,.bool a.x.uq]]).length (Zk (g++[Blk.cells (Zb c),.cells [.str a.x.nm,.own f a.x.cols.length,.bool a.x.uq]]))=true:=by rw[ZR,ZV];refine VX.2 ⟨Yf k (by simp[hg]),?_⟩;show Zi _ [f]=true;simp[Zi,hg];omega
  have rn:=Zkt (.inr ⟨rfl,rfl⟩) (h:=g++[Blk.cells (Zb c),.cells [.str a.x.nm,.own f a.x.cols.length,.bool a.x.uq]]) c.nm c.nm2 Y (gL p _) a0;rw[sL p]at rn;have tk:(g.set f (.rows 1 (SLs (Yv c.nm c.nm2 a.x.cols)) true)++[Blk.cells (Zb c),.cells [.str a.x.nm,.own f a.x.cols.length,.bool a.x.uq]]).take (N+1)=g.set f (.rows 1 (SLs (Yv c.nm c.nm2 a.x.cols)) true)++[.cells (Zb c)]:=by rw[YL F];rfl
  have J:Zi (N+1) (Zk (g.set f (.rows 1 (SLs (Yv c.nm c.nm2 a.x.cols)) true)++[Blk.cells (Zb c)]))=true:=by rw[ZR,ZV];exact VX.2 ⟨Yf H (by omega),rfl⟩
  have a1:kc<N+1:=by omega
  have a2:lt<N+1:=by omega
  have a3:lf<N+1:=by have:=(Vb.1 m).1;omega
  have a4:N<N+1:=by omega
  simp only[Zb]at rn tk J M ⊢;simp only[go_sem,simprocAttr,f73]at A;subst A;rw[Ze];simp only[go_sem,simprocAttr,d,h7,hg,gL m,gL p,gr,ga,hn,tk,J,a1,a2,a3,a4,Vd,gA0 hg,gA hg,sA0 hg,sA hg,YL hg,Yh,Vk,Vo,Vl,Vi,Zb,rn];rw[Vr (by omega)];exact M
section
variable{g:Za}{lt i:Nat}{X:List LT}{T:LT}{c:Chg}
theorem ZxG(hs:SchAt g lt X)(D:Shut g)(hi:X[i]?=some T)(ht:FitT T.tbl)(E:c.kd=6){j:Nat}(h0:ixN c.nm (T.cols.map (·.nm)) 0=(j:Int))(hj:T.cols[j]?=some col)(q:T.own)(O:T.fs.length≤1000000∧T.is.length≤1000000):
  ∃G:Za,R K (.call 73 [.optr lt X.length i 0,.agg (Zb c)] g)=some (.tup [],G++[.cells (Zb c)])∧G.length=g.length∧Zi g.length (Zk G)=true∧(∀l,l∉T.pl→G[l]?=g[l]?)∧HT G ⟨T.nm,T.cols.set j {col with nm:=c.nm2},T.lc,Yv c.nm c.nm2 T.key,T.lk,T.fs.map fun a=>⟨{a.f with cols:=Yv c.nm c.nm2 a.f.cols},a.l⟩,T.lf,T.is.map fun a=>⟨{a.x with cols:=Yv c.nm c.nm2 a.x.cols},a.l⟩,T.li⟩:=by
 have A:=Ve hi;have r:=hs.ht T A;have P:=(Vb.1 r.c).1;have a0:=(Vb.1 r.k).1;have Q:=(Vb.1 hs.tb).1;have u:=Xu hs hi;have J:g.length=g.length:=rfl;have a6:(g++[Blk.cells (Zb c)]).length=g.length+1:=by simp
 have Z:(X.map Zn)[i]?=some (Zn T):=by rw[Vj,hi];rfl
 have ga:=ZW Z;have cc:=Y9 T.tbl c.nm ht.cols;rw[show(T.tbl.cols.map (·.nm))=T.cols.map (·.nm)from rfl,h0]at cc;have sn:=fun t=>XO (r.app t).seen [.str c.nm] [.str c.nm] rfl;have qt:=fun t=>(r.app t).quietC c.nm 46;have hS:=D.add (Zdf c) (ZbO c);have q0:=hS.quiet [];rw[Vv,a6]at q0;have g3:=Ym hj;have g4:(T.cols.map Zh)[j]?=some (Zh col):=by rw[Vj,hj];rfl
 have sC:∀(a:List UInt8) (b:Int) (d:Bool) (e f:Int) (s:List UInt8),(T.cols.map Zh).set j [.str a,I b,.bool d,I e,I f,.str s]=(T.cols.set j ⟨a,b,d,⟨e,f,s⟩⟩).map Zh:=fun a b d e f s=>by rw[V9];rfl
 have a7:lt≠T.lc:=fun e=>hs.ne A (by rw[e];simp[LT.pl]);have gt:∀b:Blk,(g.set T.lc b)[lt]?=some (.rows 5 (X.map Zn) true):=fun b=>by rw[Vc (fun e=>a7 e.symm)];exact hs.tb
 have H:∀b:Blk,(g.set T.lc b).length=g.length:=fun b=>Vq;have v:∀b b':Blk,((g.set T.lc b).set T.lk b').length=g.length:=fun b b'=>by simp
 have w:=Vx.1 u;have ck:T.lc≠T.lk:=fun e=>w.1 (e▸VV);have a8:lt≠T.lk:=fun e=>hs.ne A (by rw[e];simp[LT.pl]);have cf:T.lc≠T.lf:=fun e=>w.1 (by rw[e];simp);have ci:T.lc≠T.li:=fun e=>w.1 (by rw[e];simp);have kf:T.lk≠T.lf:=fun e=>(Vx.1 w.2).1 (by rw[e];simp);have ki:T.lk≠T.li:=fun e=>(Vx.1 w.2).1 (by rw[e];simp);have gU:∀b b':Blk,((g.set T.lc b).set T.lk b')[lt]?=some (.rows 5 (X.map Zn) true):=fun b b'=>by rw[Vc a8.symm];exact gt b
 have gF:∀b b':Blk,((g.set T.lc b).set T.lk b')[T.lf]?=some (.rows 3 (T.fs.map ZF) true):=fun b b'=>by rw[Vc kf,Vc cf];exact r.f
 have gI:∀b b':Blk,((g.set T.lc b).set T.lk b')[T.li]?=some (.rows 3 (T.is.map ZJ) true):=fun b b'=>by rw[Vc ki,Vc ci];exact r.i
 have S:∀b:Blk,(g.set T.lc b)[T.lk]?=some (.rows 1 (SLs T.key) true):=fun b=>by rw[Vc ck];exact r.k
 have u1:∀cols:List Col,Zi g.length (Zk (g.set T.lc (.rows 6 (cols.map Zh) true)))=true:=fun cols=>XK D.cl (Zw cols);have u2:∀(cols:List Col) (R:List (List UInt8)),Zi g.length (Zk ((g.set T.lc (.rows 6 (cols.map Zh) true)).set T.lk (.rows 1 (SLs R) true)))=true:=fun cols R=>XK (u1 cols) (Zv R);have uC:∀h:Za,Zi g.length (Zk h)=true→Zi (g.length+1) (Zk (h++[Blk.cells (Zb c)]))=true:=fun h hh=>by rw[ZR,ZV];exact VX.2 ⟨Yf hh (by omega),rfl⟩
 have w2:=fun cols:List Col=>by
  have r1:=Zkt (.inr ⟨rfl,rfl⟩) (h:=g.set T.lc (.rows 6 (cols.map Zh) true)++[.cells (Zb c)]) c.nm c.nm2 ht.key (gL (S _) _) (by rw[Vu,H];exact uC _ (u1 cols))
  rw[sL (S _)]at r1;exact ZmW (F:=R K) (t:=[]) (N:=g.length+1) (by simp) (uC _ (u1 cols)) (args:=[.own T.lk T.key.length,.str c.nm,.str c.nm2]) (by simp[Zg,locs,Zi];omega) r1 (by simp) rfl (uC _ (u2 cols _))
 simp only[Vv]at w2;have q1:∀cols:List Col,chg (g.set T.lc (.rows 6 (cols.map Zh) true)++[.cells (Zb c)]) (g.set T.lc (.rows 6 (cols.map Zh) true)++[.cells (Zb c)]) (List.range (g.length+1))=[]:=fun cols=>Zbm fun l p=>by
  have p:=S5.1 p;by_cases U:l<g.length
  ·rw[Vh (by rw[H];exact U)];by_cases e:T.lc=l
   ·subst e;rw[Vf P];simp[eqB,Zak]
   rw[Vc e];exact D.eq l U
  have:l=g.length:=by omega
  subst this;rw[gA0 (H _)];exact ZbO c
 simp only[Zb,E,PU]at w2 q0 q1;have a9:=v (.rows 6 ((T.cols.set j {col with nm:=c.nm2}).map Zh) true) (.rows 1 (SLs (Yv c.nm c.nm2 T.key)) true);have W:(T.lf::T.fs.filterMap (·.l)).Nodup:=by refine U7 ?_ u;show(T.lf::T.fs.filterMap (·.l)).Sublist (T.lc::T.lk::T.lf::T.li::(T.fs.filterMap (·.l)++T.is.filterMap (·.l)));exact .cons _ (.cons _ (.cons_cons _ (.cons _ (List.sublist_append_left ..))))
 have Y:(T.li::T.is.filterMap (·.l)).Nodup:=by refine U7 ?_ u;show(T.li::T.is.filterMap (·.l)).Sublist (T.lc::T.lk::T.lf::T.li::(T.fs.filterMap (·.l)++T.is.filterMap (·.l)));exact .cons _ (.cons _ (.cons _ (.cons_cons _ (Pa ..))))
 have mF:∀a∈T.fs,∀l,a.l=some l→l∈T.fs.filterMap (·.l):=fun a m l e=>VG.2 ⟨a,m,e⟩;have mI:∀a∈T.is,∀l,a.l=some l→l∈T.is.filterMap (·.l):=fun a m l e=>VG.2 ⟨a,m,e⟩;have C:∀l∈T.fs.filterMap (·.l),l≠T.lc∧l≠T.lk∧l≠T.li∧l∉T.is.filterMap (·.l):=fun l p=>by have y:(T.lc::T.lk::T.lf::T.li::(T.fs.filterMap (·.l)++T.is.filterMap (·.l))).Nodup:=u;simp only[Vx,Vn,Vg,So,VY]at y;exact⟨fun e=>y.1.2.2.2.1 (e▸p),fun e=>y.2.1.2.2.1 (e▸p),fun e=>y.2.2.2.1.1 (e▸p),fun h=>y.2.2.2.2.2.2 l p l h rfl⟩
 have oI:∀l∈T.is.filterMap (·.l),l≠T.lc∧l≠T.lk∧l≠T.lf:=fun l p=>by have y:(T.lc::T.lk::T.lf::T.li::(T.fs.filterMap (·.l)++T.is.filterMap (·.l))).Nodup:=u;simp only[Vx,Vn,Vg,So,VY]at y;exact⟨fun e=>y.1.2.2.2.2 (e▸p),fun e=>y.2.1.2.2.2 (e▸p),fun e=>y.2.2.1.2.2 (e▸p)⟩
 have fx:∀(b b':Blk) (l:Nat),l≠T.lc→l≠T.lk→((g.set T.lc b).set T.lk b')[l]?=g[l]?:=fun b b' l e1 e2=>by rw[Vc e2.symm,Vc e1.symm]
 obtain⟨g1,a1,a2,M,a4,a5⟩:=ZzN (kc:=0) (lt:=lt) (n:=X.length) (i:=i) (lf:=T.lf) (N:=g.length) (c:=c) (fs:=T.fs) rfl O.1 (by omega) Q T.fs 0 _ 0 rfl (UB _) rfl a9 (u2 _ _) (gF _ _)
  (fun a m=>by obtain⟨l,e⟩:=q.1 a m;have:=C l (mF a m l e);exact⟨l,e,by rw[fx _ _ l this.1 this.2.1];exact r.fc a m l e,(ht.fg a.f (by simp only[LT.tbl,VE];exact⟨a,m,rfl⟩)).2⟩) W
 obtain⟨g',b1,b2,b3,b4,b5⟩:=Zz5 (kc:=0) (lt:=lt) (n:=X.length) (i:=i) (lf:=T.li) (N:=g.length) (c:=c) (fs:=T.is) rfl O.2 (by omega) Q T.is 0 g1 0 rfl (UB _) rfl a1 a2
  (by rw[M T.li fun h=>(C _ h).2.2.1 rfl];exact gI _ _)
  (fun a m=>by obtain⟨l,e⟩:=q.2 a m;have:=oI l (mI a m l e);exact⟨l,e,by rw[M l fun h=>(C l h).2.2.2 (mI a m l e),fx _ _ l this.1 this.2.1];exact r.ic a m l e,(ht.ix a.x (by simp only[LT.tbl,VE];exact⟨a,m,rfl⟩)).2⟩) Y
 refine⟨g',?_,b1,b2,fun l p=>?_,?_⟩
 ·have aa:g1[lt]?=some (.rows 5 (X.map Zn) true):=by rw[M lt fun h=>hs.ne A (by simp only[LT.pl,Vn,Vg];exact .inr (.inr (.inr (.inr (.inl h)))))];exact gU _ _
  have ab:g1[T.li]?=some (.rows 3 (T.is.map ZJ) true):=by rw[M T.li fun h=>(C _ h).2.2.1 rfl];exact gI _ _
  simp only[Zn]at Z ga sn qt;simp only[Zh]at g3 g4;simp only[Zb,E]at a5 b5 ⊢;rw[Zl5];simp only[go_sem,simprocAttr,f73,E,hs.tb,gL hs.tb,Z,ga,sn,cc,qt,w2,q1,g3,g4,sC,gL (gt _),gL (gU _ _),gL (gF _ _),gL (gI _ _),gA0 (v _ _),sA0 (v _ _),gA (v _ _),sA (v _ _),q0,gL r.c,gL r.k,gL r.f,gL r.i,sL r.c,gA0 (H _),sA0 (H _),gA (H _),sA (H _),Zb,ZB,Zf,SI,Ss,VN,VW,V7,Vd,gA0 J,gA J,sA0 J,sA J,X6 J,YL J,Vk,Vo,Vl,Vi];rw[show T.tbl.key=T.key from rfl];rw[a5 _ _ ?_]
  rotate_left
  ·rfl
  simp only[go_sem,simprocAttr,Z,a1,gL aa,gL ab,Vd];rw[b5 _ _ ?_]
  rotate_left
  ·rfl
  simp only[go_sem,simprocAttr]
  done
 ·simp only[LT.pl,Vn,Vg,So]at p;rw[b3 l p.2.2.2.2.2,M l p.2.2.2.2.1];exact fx _ _ l p.1 p.2.1
 have eF:(T.fs.map fun a=>(⟨{a.f with cols:=Yv c.nm c.nm2 a.f.cols},a.l⟩:LF)).map ZF=T.fs.map ZF:=by rw[V8];refine Ul fun a m=>?_;obtain⟨l,e⟩:=q.1 a m;simp[ZF,Yc,e,WF]
 have eI:(T.is.map fun a=>(⟨{a.x with cols:=Yv c.nm c.nm2 a.x.cols},a.l⟩:LI)).map ZJ=T.is.map ZJ:=by rw[V8];refine Ul fun a m=>?_;obtain⟨l,e⟩:=q.2 a m;simp[ZJ,Yc,e,WF]
 have nF:∀l,(∀x∈T.fs.filterMap (·.l),x≠l)→(∀x∈T.is.filterMap (·.l),x≠l)→g'[l]?=(((g.set T.lc (.rows 6 ((T.cols.set j {col with nm:=c.nm2}).map Zh) true)).set T.lk (.rows 1 (SLs (Yv c.nm c.nm2 T.key)) true)))[l]?:=fun l e1 e2=>by rw[b3 l fun h=>e2 l h rfl];exact M l fun h=>e1 l h rfl
 refine⟨?_,?_,?_,?_,fun a m l e=>?_,fun a m l e=>?_⟩
 ·rw[nF T.lc (fun x hx=>(C x hx).1) (fun x hx=>(oI x hx).1),Vc ck.symm,Vf P]
 ·rw[nF T.lk (fun x hx=>(C x hx).2.1) (fun x hx=>(oI x hx).2.1),Vf (by simpa using a0)]
 ·rw[nF T.lf (fun x hx e=>(Vx.1 W).1 (e▸hx)) (fun x hx=>(oI x hx).2.2),eF];exact gF _ _
 ·rw[nF T.li (fun x hx=>(C x hx).2.2.1) (fun x hx e=>(Vx.1 Y).1 (e▸hx)),eI];exact gI _ _
 ·obtain⟨b,hb,rfl⟩:=VE.1 m;rw[b3 l fun h=>(C l (mF b hb l e)).2.2.2 h];exact a4 b hb l e
 obtain⟨b,hb,rfl⟩:=VE.1 m;exact b4 b hb l e
end
attribute [go_sem] Z0 ZN
attribute [-go_sem] YY
theorem ZzB{b:Blk}{H:Za}{l z:Nat}{rs:List (List AV)}(h:(b::H)[l]?=some (.rows z rs true))(p q:Blk):(p::q::YY (ZO [] 2) b::H.map (YY (ZO [] 2)))[2+l]?=some (.rows z (XN (ZO [] 2) rs) true):=by have:=gA (g:=[p,q]) (N:=2) rfl ((b::H).map (YY (ZO [] 2))) l;rw[Vj,h]at this;exact this
section
variable{x:List Tbl}{c:Chg}(hx:FitX x)
include hx
theorem Zsj(h0:X8 x≠0):R K (.call 9 [ZX x,.agg (Zb c)] [])=some (I (X8 x),[]):=by
 have b:=Xp x hx;generalize X8 x=e at *;have d:(e==0)=false:=by simpa using h0
 rw[Za6];simp only[go_sem,simprocAttr,f9,Zb,b,d,bne]
theorem Zy7(h0:X8 x=0)(hk:¬(1≤c.kd∧c.kd≤15)):R K (.call 9 [ZX x,.agg (Zb c)] [])=some (I 4,[]):=by
 have b:=Xp x hx;have h2:=YJ c.kd 1 15;rw[h0]at b;have d:ZY c.kd 1 15=false:=by unfold ZY;simp;omega
 rw[d]at h2;rw[Za6];simp only[go_sem,simprocAttr,f9,Zb,b,h2,bne]
end
section
variable{x:List Tbl}{c:Chg}(hx:FitX x)
include hx
variable(h0:X8 x=0)(hk:1≤c.kd∧c.kd≤15)(hs:SmC c)
include h0 hk hs
theorem ZyR(hf:ZgW c=false):R K (.call 9 [ZX x,.agg (Zb c)] [])=some (I 3,[]):=by
 have b:=Xp x hx;have h2:=YJ c.kd 1 15;have h3:=JZ c hs;rw[h0]at b;have d:ZY c.kd 1 15=true:=by unfold ZY;simp;omega
 rw[d]at h2;rw[hf]at h3;simp only[Zb]at h3;rw[Za6];simp only[go_sem,simprocAttr,f9,Zb,b,h2,h3,bne]
end
section
variable{x:List Tbl}{c:Chg}(hx:FitX x)
include hx
variable(h0:X8 x=0)(hk:1≤c.kd∧c.kd≤15)(hs:SmC c)
include h0 hk hs
variable(hf:ZgW c=true)
include hf
theorem ZxP(f:c.kd≠1)(ht:ixN c.tb (x.map (·.nm)) 0<0):R K (.call 9 [ZX x,.agg (Zb c)] [])=some (I 5,[]):=by
 have e:=Xp x hx;have h2:=YJ c.kd 1 15;have h3:=JZ c hs;have h:=YT x c.tb hx.len;rw[h0]at e;have d:ZY c.kd 1 15=true:=by unfold ZY;simp;omega
 have b:(c.kd==1)=false:=by simpa using f
 rw[d]at h2;rw[hf]at h3;simp only[Zb]at h3;generalize ixN c.tb (x.map (·.nm)) 0=m at *;rw[Za6];simp only[go_sem,simprocAttr,f9,Zb,e,h2,h3,h,bne,b,ht]
end
section
variable{x:List Tbl}{c:Chg}(hx:FitX x)
include hx
variable(h0:X8 x=0)(hk:1≤c.kd∧c.kd≤15)(hs:SmC c)
include h0 hk hs
variable(hf:ZgW c=true)
include hf
variable(hn:c.kd=1∨0≤ixN c.tb (x.map (·.nm)) 0)
include hn
theorem ZAd{e:Int}(b:R K (.call 30 [ZX x,.agg (Zb c)] [])=some (I e,[]))(q:e≠0):R K (.call 9 [ZX x,.agg (Zb c)] [])=some (I e,[]):=by
 have f:=Xp x hx;have h2:=YJ c.kd 1 15;have h3:=JZ c hs;have l:=YT x c.tb hx.len;rw[h0]at f;have d:ZY c.kd 1 15=true:=by unfold ZY;simp;omega
 have p:(e==0)=false:=by simpa using q
 rw[d]at h2;rw[hf]at h3;simp only[Zb]at h3 b;generalize ixN c.tb (x.map (·.nm)) 0=m at *;by_cases h:c.kd=1
 ·simp only[h]at h2 h3 b;rw[Za6];simp only[go_sem,simprocAttr,f9,Zb,f,h2,h3,l,b,bne,h,p]
 have k:(c.kd==1)=false:=by simpa using h
 have r:¬m<0:=by omega
 rw[Za6];simp only[go_sem,simprocAttr,f9,Zb,f,h2,h3,l,b,bne,k,r,p]
theorem ZCP{a:AV}{H:Za}{y:List Tbl}(k:R K (.call 30 [ZX x,.agg (Zb c)] [])=some (I 0,[]))(p:R K (.call 31 [ZX x,.agg (Zb c)] [])=some (.agg [a],H))(A:SeenX H a y)(w:IsL H a)(D:FitX y):
  R K (.call 9 [ZX x,.agg (Zb c)] [])=some (I (X8 y),[]):=by
 have h:=Xp x hx;have h2:=YJ c.kd 1 15;have h3:=JZ c hs;have u:=YT x c.tb hx.len;have v:=Xp y D;rw[h0]at h;have d:ZY c.kd 1 15=true:=by unfold ZY;simp;omega
 rw[d]at h2;rw[hf]at h3;simp only[Zb]at h3 k p;generalize X8 y=F at *;rcases H with _|⟨b,H⟩
 ·exfalso;obtain⟨rs,E,_⟩:=A;rcases w with⟨l,n,z,rs,rfl,q⟩|⟨l,n,m,rfl⟩
  ·simp at q
  cases E with
  |vw _ _ _ _ _ _ _ h _ _=>simp at h
 have f:=ZeN (A.shift (pre:=[.cells [.rows (x.map Zc)],.cells (Zb c)]) (n:=2) rfl) [] [] rfl;generalize ixN c.tb (x.map (·.nm)) 0=m at *;simp only[Vl,Vi,Vz,Zb]at f;by_cases r:c.kd=1
 ·simp only[r]at h2 h3 k p f;rcases w with⟨l,n,z,rs,rfl,q⟩|⟨l,n,m,rfl⟩
  ·have e:=ZzB q (.cells [.rows (x.map Zc)]) (.cells (Zb c));simp only[ren,WR]at f;simp only[Zb,r]at e;rw[Za6];simp only[go_sem,simprocAttr,f9,Zb,h,h2,h3,u,k,p,v,bne,r,f,e,V4]
   done
  simp only[ren,WR]at f;rw[Za6];simp only[go_sem,simprocAttr,f9,Zb,h,h2,h3,u,k,p,v,bne,r,f,V4]
  done
 have s:(c.kd==1)=false:=by simpa using r
 have C:¬m<0:=by omega
 rcases w with⟨l,n,z,rs,rfl,q⟩|⟨l,n,m,rfl⟩
 ·have e:=ZzB q (.cells [.rows (x.map Zc)]) (.cells (Zb c));simp only[ren,WR]at f;simp only[Zb]at e;rw[Za6];simp only[go_sem,simprocAttr,f9,Zb,h,h2,h3,u,k,p,v,bne,s,C,f,e,V4]
  done
 simp only[ren,WR]at f;rw[Za6];simp only[go_sem,simprocAttr,f9,Zb,h,h2,h3,u,k,p,v,bne,s,C,f,V4]
 done
end
attribute [go_sem] Zy Zs ZH Z1 ZL Yd YY
section
variable{x:List Tbl}{c:Chg}
theorem Zmy(o:Okc x c):∃(g:Za) (lt:Nat) (X:List LT) (n:Nat),NsH g lt X c∧X.map LT.tbl=x∧X.length≤10∧(∀U∈X,U.fs.length≤15∧U.is.length≤15)∧(∀U∈X,U.own) ∧
  R K (.call 31 [ZX x,.agg (Zb c)] [])=R K (.run 31 0 [.code (sqC 3 (f31.body.getD .skip))] (nsS x c lt n (ixN c.tb (x.map (·.nm)) 0)) g):=by
 have f:=o.sz.l1;have b:=o.sz.l3
 match x,o,f,b with
 |t::r,o,f,b =>
  obtain⟨g,hg,e⟩:=ZA2 t r o.len o.sm o.fit c;refine⟨g,_,_,_,hg,Zpf 6 t r,by rw[Zpm];simp at b;omega,fun U d=>?_,fun U d=>ZxF _ _ _ U d,e⟩;have h:U.tbl∈t::r:=by rw[←Zpf 6 t r];exact VE.2 ⟨U,d,rfl⟩
  have s:=o.sz.tbl _ h;have k:=s.fl;have l:=s.il;simp only[LT.tbl,Vd]at k l;exact⟨by omega,by omega⟩
theorem JU(o:Okc x c)(hn:c.kd=1∨0≤ixN c.tb (x.map (·.nm)) 0){e:Int}{y:List Tbl}(f:WH x c e y)(d:R K (.call 30 [ZX x,.agg (Zb c)] [])=some (I e,[]))
  (h:e=0→∃H a,R K (.call 31 [ZX x,.agg (Zb c)] [])=some (.agg [a],H)∧SeenX H a y∧IsL H a) :
  ∃v:Int,R K (.call 8 [ZX x,.agg (Zb c)] [])=some (I v,[])∧R K (.call 9 [ZX x,.agg (Zb c)] [])=some (I v,[]):=by
 refine⟨_,f.1,?_⟩;by_cases b:e=0
 ·obtain⟨H,a,k,l,m⟩:=h b;rw[Vr b];rw[b]at d;exact ZCP o.fit o.chk o.kd o.g.smc o.form hn d k l m (f.2 b)
 rw[Vm b];exact ZAd o.fit o.chk o.kd o.g.smc o.form hn d b
theorem ZlL{α:Type}(f:α→List UInt8)(n:List UInt8)(l:List α):(l.any fun a=>f a==n)=decide (0≤ixN n (l.map f) 0):=by rw[←Zgm,Zdx]
theorem ZEn(o:Okc x c)(b:c.kd=1):∃v:Int,R K (.call 8 [ZX x,.agg (Zb c)] [])=some (I v,[])∧R K (.call 9 [ZX x,.agg (Zb c)] [])=some (I v,[]):=by refine JU o (.inl b) (p_1 o b) (ZAx (by have:=o.len;omega) b) fun _=>?_;obtain⟨g,lt,X,n,hg,h,hX,hsz,_,e⟩:=Zmy o;have sm:SmT c.new:=⟨by have:=o.g.new.cols;omega,by have:=o.g.new.key;omega,by rw[o.g.new.fgn];simp,by have:=o.g.new.idx;omega,by rw[o.g.new.fgn];simp,fun f hf=>by have:=(o.g.new.ix f hf).2;omega⟩;obtain⟨H,a,k,d,l⟩:=ZrL (x:=x) (n:=n) (m:=ixN c.tb (x.map (·.nm)) 0) hg b hX hsz sm ⟨by rw[o.g.new.fgn];simp,by have:=o.g.new.idx;omega⟩;refine⟨H,a,e.trans k,?_,l⟩;rw[h,Zn6 (W5 o.chk) (by rw[o.g.new.fgn];exact List.Pairwise.nil) o.g.new.rise]at d;exact d
end
section
variable{x:List Tbl}{c:Chg}
variable{i:Nat}{t:Tbl}(o:Okc x c)(ht:ixN c.tb (x.map (·.nm)) 0=(i:Int))(hi:x[i]?=some t)
include o ht hi
theorem QD:∃(g:Za) (lt:Nat) (X:List LT) (n:Nat) (T:LT),NsH g lt X c∧X.map LT.tbl=x∧X.length≤10∧(∀U∈X,U.fs.length≤15∧U.is.length≤15)∧X[i]?=some T∧T.tbl=t∧T.own ∧
  R K (.call 31 [ZX x,.agg (Zb c)] [])=R K (.run 31 0 [.code (sqC 3 (f31.body.getD .skip))] (nsS x c lt n (i:Int)) g):=by
 obtain⟨g,lt,X,n,hg,b,hX,hsz,h,e⟩:=Zmy o;have d:=congrArg (·[i]?) b;simp only[Vj,hi,UT]at d;obtain⟨T,f,h2⟩:=d;rw[ht]at e;exact⟨g,lt,X,n,T,hg,b,hX,hsz,f,h2,h T (Ve f),e⟩
theorem ZzK:t.nm=c.tb:=by have:=ZaC _ 0 i (by rw[ht];simp);rw[Vj,hi]at this;simpa using this
theorem ZD7(b:c.kd=2):∃v:Int,R K (.call 8 [ZX x,.agg (Zb c)] [])=some (I v,[])∧R K (.call 9 [ZX x,.agg (Zb c)] [])=some (I v,[]):=by
 have d:=ZzK o ht hi;refine JU o (.inr (by omega)) (p_2 o ht hi b) ?_ fun _=>?_
 ·have:=ZBF o.fit ht hi b;rw[this];unfold Wz ZiV;rw[Vr b,d];simp only[UM]
 obtain⟨g,lt,X,n,T,hg,h,hX,hsz,k,h2,_,e⟩:=QD o ht hi;obtain⟨H,a,l,f,m⟩:=Zx3 (x:=x) (n:=n) hg k b hX hsz;rw[h,ZsJ (W5 o.chk) hi d]at f;exact⟨H,a,e.trans l,f,m⟩
theorem ZEx(b:c.kd=3):∃v:Int,R K (.call 8 [ZX x,.agg (Zb c)] [])=some (I v,[])∧R K (.call 9 [ZX x,.agg (Zb c)] [])=some (I v,[]):=by
 refine JU o (.inr (by omega)) (p_3 o ht hi b) ?_ fun _=>?_
 ·have:=ZA3 o.fit (by have:=o.g.nm;omega) ht hi b;rw[this];unfold Wz;rw[Vm (by omega),Vr b]
 obtain⟨g,lt,X,n,T,hg,f,hX,hsz,h,h2,_,e⟩:=QD o ht hi;obtain⟨H,a,k,d,l⟩:=ZrZ (x:=x) (n:=n) hg h b hX hsz;rw[f,h2,ZoL (W5 o.chk) hi]at d;exact⟨H,a,e.trans k,d,l⟩
theorem ZEe(b:c.kd=4):∃v:Int,R K (.call 8 [ZX x,.agg (Zb c)] [])=some (I v,[])∧R K (.call 9 [ZX x,.agg (Zb c)] [])=some (I v,[]):=by
 have f:=o.fit.tbl _ (Ve hi);refine JU o (.inr (by omega)) (p_4 o ht hi b) ?_ fun _=>?_
 ·have:=ZAn o.fit f ht hi b;rw[this];unfold Wz;rw[Vm (by omega),Vm (by omega),Vr b];simp
 obtain⟨g,lt,X,n,T,hg,h,hX,hsz,k,rfl,_,e⟩:=QD o ht hi;have p:T.cols.length≤6:=(o.sz.tbl _ (Ve hi)).cl;obtain⟨H,a,l,d,m⟩:=ZxT (x:=x) (n:=n) hg k b hX hsz (by unfold Zp;omega);rw[h,Q1 (W5 o.chk) hi]at d;exact⟨H,a,e.trans l,d,m⟩
end
section
variable{x:List Tbl}{c:Chg}{i:Nat}{t:Tbl}(o:Okc x c)(ht:ixN c.tb (x.map (·.nm)) 0=(i:Int))(hi:x[i]?=some t)
include o ht hi
theorem ZDb(b:c.kd=11):∃v:Int,R K (.call 8 [ZX x,.agg (Zb c)] [])=some (I v,[])∧R K (.call 9 [ZX x,.agg (Zb c)] [])=some (I v,[]):=by
 have h:=o.fit.tbl _ (Ve hi);refine JU o (.inr (by omega)) (ZDH o ht hi b) ?_ fun _=>?_
 ·have:=Zys o.fit h ht hi b;rw[this];unfold Wz;rw[Vm (by omega),Vm (by omega),Vm (by omega),Vr b,ZlL (fun i:Idx=>i.nm)];simp
 obtain⟨g,lt,X,n,T,hg,k,hX,hsz,d,rfl,_,e⟩:=QD o ht hi;have:=(hsz T (Ve d)).2;obtain⟨H,a,l,f,m⟩:=ZtE (x:=x) (n:=n) hg d b hX hsz (by unfold Zp;omega);rw[k,Zn2 (W5 o.chk) hi]at f;exact⟨H,a,e.trans l,f,m⟩
theorem ZDe(b:c.kd=13):∃v:Int,R K (.call 8 [ZX x,.agg (Zb c)] [])=some (I v,[])∧R K (.call 9 [ZX x,.agg (Zb c)] [])=some (I v,[]):=by
 have h:=o.fit.tbl _ (Ve hi);refine JU o (.inr (by omega)) (ZEI o ht hi b) ?_ fun _=>?_
 ·have:=Zxq o.fit h ht hi b;rw[this];unfold Wz;rw[Vm (by omega),Vm (by omega),Vm (by omega),Vm (by omega),Vm (by omega),Vr b,ZlL (fun i:Fgn=>i.nm)];simp
 obtain⟨g,lt,X,n,T,hg,k,hX,hsz,d,rfl,_,e⟩:=QD o ht hi;have:=(hsz T (Ve d)).1;obtain⟨H,a,l,f,m⟩:=Zwa (x:=x) (n:=n) hg d b hX hsz (by unfold Zp;omega);rw[k,ZoO (W5 o.chk) hi]at f;exact⟨H,a,e.trans l,f,m⟩
theorem ZCj(b:c.kd=12):∃v:Int,R K (.call 8 [ZX x,.agg (Zb c)] [])=some (I v,[])∧R K (.call 9 [ZX x,.agg (Zb c)] [])=some (I v,[]):=by
 have l:=o.fit.tbl _ (Ve hi);refine JU o (.inr (by omega)) (ZD1 o ht hi b) ?_ fun m=>?_
 ·have:=ZyT o.fit l ht hi b;rw[this];unfold Wz;rw[Vm (by omega),Vm (by omega),Vm (by omega),Vm (by omega),Vr b,ZlL (fun i:Idx=>i.nm)];simp
 obtain⟨g,lt,X,n,T,hg,p,hX,hsz,q,rfl,_,e⟩:=QD o ht hi;rcases Q5 c.nm (T.tbl.idx.map (·.nm))with h|⟨j,h0,hj⟩
 ·rw[Vr h]at m;omega
 have f:=(Vb.1 hj).1;simp only[LT.tbl,Vd]at f;obtain⟨a0,d⟩:=Zu f;obtain⟨H,a,r,k,s⟩:=ZyS (x:=x) (n:=n) hg q b hX hsz h0 d;rw[p,Zp9 (W5 o.chk) hi h0]at k;rw[h0,Vk];exact⟨H,a,e.trans r,k,s⟩
theorem ZCH(b:c.kd=14):∃v:Int,R K (.call 8 [ZX x,.agg (Zb c)] [])=some (I v,[])∧R K (.call 9 [ZX x,.agg (Zb c)] [])=some (I v,[]):=by
 have l:=o.fit.tbl _ (Ve hi);refine JU o (.inr (by omega)) (ZEG o ht hi b) ?_ fun m=>?_
 ·have:=Zzh o.fit l ht hi b;rw[this];unfold Wz;rw[Vm (by omega),Vm (by omega),Vm (by omega),Vm (by omega),Vm (by omega),Vm (by omega),Vr b,ZlL (fun i:Fgn=>i.nm)];simp
 obtain⟨g,lt,X,n,T,hg,p,hX,hsz,q,rfl,_,e⟩:=QD o ht hi;rcases Q5 c.nm (T.tbl.fgn.map (·.nm))with h|⟨j,h0,hj⟩
 ·rw[Vr h]at m;omega
 have f:=(Vb.1 hj).1;simp only[LT.tbl,Vd]at f;obtain⟨a0,d⟩:=Zu f;obtain⟨H,a,r,k,s⟩:=ZyM (x:=x) (n:=n) hg q b hX hsz h0 d;rw[p,Zpu (W5 o.chk) hi h0]at k;rw[h0,Vk];exact⟨H,a,e.trans r,k,s⟩
end
theorem Zn1(t:Tbl):∀(r pre:List (List UInt8)) (L:List Col),evE (W3 t (pre++r) Zbl) pre.length r.length=(Xs t.cols pre L r).1
 |[],pre,L=>rfl
 |n::r,pre,L=>by
  have hn:(pre++n::r)[pre.length]?=some n:=by simp
  have b:=Zn1 t r (pre++[n]) (L++(t.cols[(ixN n (t.cols.map (·.nm)) 0).toNat]?).toList);simp only[Vo,Ud,Vu,Uo]at b;rw[VC,evE,Zgp hn,PT rfl];unfold Xs;split
  ·rw[Vm (by omega)]
  split
  ·rw[Vm (by omega)]
  rw[Vr rfl];exact b
theorem ZrO(t:Tbl)(l:List (List UInt8)):QB t l Zbl=(Xs t.cols [] [] l).1:=Zn1 t l [] []
theorem ZqH{α:Type}[DecidableEq α]:∀{l m:List α},l.Nodup→(∀a∈l,a∈m)→l.length≤m.length
 |[],_,_,_=>UB _
 |a::l,m,h,s=>by have d:=s a VV;obtain⟨k,h2⟩:=Vx.1 h;have:=ZqH (m:=m.erase a) h2 fun b f=>(List.mem_erase_of_ne fun e=>k (by rw[←e];exact f)).2 (s b (VD _ f));rw[List.length_erase_of_mem d]at this;have:=List.length_pos_of_mem d;simp only[VC];omega
theorem ZAD(n:List UInt8)(l:List (List UInt8))(h:¬ixN n l 0<0):n∈l∧(ixN n l 0).toNat<l.length:=by
 rcases Q5 n l with h'|⟨j,e,hj⟩
 ·exact absurd h' h
 rw[e];exact⟨Ve hj,(Vb.1 hj).1⟩
theorem Zro(cols:List Col):∀(r pre:List (List UInt8)) (L:List Col),pre.Nodup→(∀a∈pre,a∈cols.map (·.nm))→L.length=pre.length→(Xs cols pre L r).1=0 →
  (pre++r).Nodup∧(∀a∈pre++r,a∈cols.map (·.nm))∧(Xs cols pre L r).2.length=(pre++r).length
 |[],pre,L,h,h2,h3,_=>by simpa[Xs]using⟨h,by simpa using h2,h3⟩
 |n::r,pre,L,h,h2,h3,h0=>by
  unfold Xs at h0 ⊢;by_cases k:ixN n (cols.map (·.nm)) 0<0
  ·rw[Vr k]at h0;simp at h0
  rw[Vm k]at h0 ⊢;by_cases l:pre.contains n=true
  ·rw[Vr l]at h0;simp at h0
  rw[Vm l]at h0 ⊢;obtain⟨q,m⟩:=ZAD _ _ k;rw[Vd]at m;obtain⟨col,f⟩:=Zu m;have s:n∉pre:=by simpa using l
  have:=Zro cols r (pre++[n]) (L++(cols[(ixN n (cols.map (·.nm)) 0).toNat]?).toList)
   (VY.2 ⟨h,by simp,fun a d b p=>by rw[VH]at p;intro e;exact s (p▸e▸d)⟩)
   (fun a d=>by
    rcases Vg.1 d with d|d
    ·exact h2 a d
    rw[VH]at d;rw[d];exact q)
   (by rw[f];simp[h3]) h0
  simpa[Vo]using this
theorem Zuy(t:Tbl)(l:List (List UInt8)):Zja t l=(if(Xs t.cols [] [] l).1=0 then(if(Xs t.cols [] [] l).2.length<t.cols.length then 3 else 0)else(Xs t.cols [] [] l).1):=by
 unfold Zja;rw[ZrO];by_cases h:(Xs t.cols [] [] l).1=0
 ·rw[Vr h,Vr h];obtain⟨b,d,e⟩:=Zro t.cols l [] [] List.nodup_nil (by simp) rfl h;have:=ZqH b d;rw[e];simp only[Vi,Vd]at this ⊢;by_cases h2:l.length=t.cols.length
  ·rw[Vr h2,Vm (by omega)]
  rw[Vm h2,Vr (by omega)]
 rw[Vm h,Vm h]
theorem ZAe(h:X8 x=0):∀t∈x,t.nm≠[]:=by
 unfold X8 at h;split at h
 ·simp at h
 have b:=XB 2 0 h 0 (by omega) (by omega);simp only[Zg4]at b;intro t ht e;obtain⟨i,hi⟩:=Uf.1 ht;have d:=(Vb.1 hi).1;have:=(Zbn b).1 i d;unfold Q9 at this;have q:nmA (x.map (·.nm)) i=[]:=by unfold nmA;rw[Vj,hi];exact e
 rw[q,Vr (show Xw []=false from rfl)]at this;omega
theorem Zy4{t:Tbl}{c:Chg}(h:X8 x=0)(b:t.nm=c.tb)(h2:col.nm=c.nm):ZjX x t col c.col.kd=Zil x t c col:=by
 unfold ZjX Zil ZiV;rw[b,h2];have e:(x.any fun u=>u.fgn.any fun f=>f.tb==c.tb)=(x.any fun u=>!(u.nm==[])&&u.fgn.any fun f=>f.tb==c.tb):=by
  rw[UE,PP,PP];refine exists_congr fun u=>and_congr_right fun d=>?_;have:(u.nm==[])=false:=by have:=ZAe h u d;simpa using this
  rw[this];simp
 rw[e]
theorem ZrT{t:Tbl}(s:RsT t){n:List UInt8}{j:Nat}(hj:t.cols[j]?=some col)(hn:col.nm=n):t.cols.eraseIdx j=ZfH n t.cols:=(QI s.co hj hn).symm
section
variable{x:List Tbl}{c:Chg}{g G:Za}{lt i n:Nat}{X:List LT}{T:LT}(hg:NsH g lt X c)(hi:X[i]?=some T)(hX:X.length≤10)(hsz:∀U∈X,U.fs.length≤15∧U.is.length≤15)
include hg hi hX hsz
theorem Zq8(cols:List Col)(D:List (List AV))(q:AV)(M:Dead D)(C:(D=[]∧q=.own T.lc cols.length)∨q=.vw T.lc (cols.length+D.length) 0 cols.length)
  (N:G[T.lc]?=some (.rows 6 (cols.map Zh++D) true)) (O:G[lt]?=some (.rows 5 ((X.map Zn).set i [.str T.nm,q,.own T.lk T.key.length,.own T.lf T.fs.length,.own T.li T.is.length]) true))
  (fr:∀l,l<g.length→l≠lt→l≠T.lc→G[l]?=g[l]?) (r:g.length≤G.length) (P:Zi G.length (Zk G)=true)
  (Q:∃S,get S 2=.ptr 0 0∧get S 4=.ptr 2 0∧R K (.run 31 0 [.code (sqC 3 (f31.body.getD .skip))] (nsS x c lt n (i:Int)) g)=R K (.run 31 0 [.code (sqC 4 (f31.body.getD .skip))] S G)) :
  ∃H a,R K (.run 31 0 [.code (sqC 3 (f31.body.getD .skip))] (nsS x c lt n (i:Int)) g)=some (.agg [a],H)∧SeenX H a (Y2 ((X.map LT.tbl).set i ⟨T.tbl.nm,cols,T.tbl.key,T.tbl.fgn,T.tbl.idx⟩))∧IsL H a:=by
 have hs:=hg.at';have d:=Ve hi;have s:=hs.ht T d;have F:=Xu hs hi;have b:=F;simp only[LT.pl,Vx,Vn,Vg,So,VY]at b;have u:∀l,l∈T.pl→l≠lt:=fun l v e=>hs.ne d (e▸v);have mf:∀l∈T.fs.filterMap (·.l),l∈T.pl:=fun l v=>by simp only[LT.pl,Vn,Vg];exact .inr (.inr (.inr (.inr (.inl v))))
 have mi:∀l∈T.is.filterMap (·.l),l∈T.pl:=fun l v=>by simp only[LT.pl,Vn,Vg];exact .inr (.inr (.inr (.inr (.inr v))))
 have w:∀l,l∈T.pl→l≠T.lc→G[l]?=g[l]?:=fun l A E=>fr l (hs.lo T d l A) (u l A) E;have U:HW G (⟨T.nm,q,[T.lc],cols,T.lk,T.key,.own T.lf T.fs.length,T.lf,T.fs,[],.own T.li T.is.length,T.li,T.is,[]⟩:LW):=by
  refine⟨.inr ⟨T.lc,D,rfl,M,⟨N,by simpa using C⟩⟩,(w T.lk (by simp[LT.pl]) (fun e=>b.1.1 e.symm)).trans s.k,.own ((w T.lf (by simp[LT.pl]) (fun e=>b.1.2.1 e.symm)).trans s.f) (by simp),.own ((w T.li (by simp[LT.pl]) (fun e=>b.1.2.2.1 e.symm)).trans s.i) (by simp),fun a y l e=>?_,fun a y l e=>?_,Dead.nil,Dead.nil⟩
  ·have m:l∈T.fs.filterMap (·.l):=VG.2 ⟨a,y,e⟩;exact(w l (mf l m) (fun e'=>b.1.2.2.2.1 (e'▸m))).trans (s.fc a y l e)
  have m:l∈T.is.filterMap (·.l):=VG.2 ⟨a,y,e⟩;exact(w l (mi l m) (fun e'=>b.1.2.2.2.2 (e'▸m))).trans (s.ic a y l e)
 have J:(⟨T.nm,q,[T.lc],cols,T.lk,T.key,.own T.lf T.fs.length,T.lf,T.fs,[],.own T.li T.is.length,T.li,T.is,[]⟩:LW).pl=T.pl:=by simp[LW.pl,LT.pl]
 have Y:=hsz T d;exact Zc6 (x:=x) (n:=n) (m:=(i:Int)) hg hi hX hsz O U (fun l h A E=>fr l h A fun e=>E (by rw[e];simp[LT.pl])) (fun p W=>.inl (by rwa [J]at W)) (by rw[J];exact F) r P ⟨by show T.fs.length<20;omega,by show T.is.length<20;omega⟩ Q
theorem Zmk(cols:List Col)(k:cols.length=T.cols.length)
  (m:R K (.call 73 [.optr lt X.length i 0,.agg (Zb c)] g)=some (.tup [],g.set T.lc (.rows 6 (cols.map Zh) true)++[.cells (Zb c)])) (p:c.kd=7∨c.kd=8∨c.kd=9∨c.kd=10) :
  ∃H a,R K (.run 31 0 [.code (sqC 3 (f31.body.getD .skip))] (nsS x c lt n (i:Int)) g)=some (.agg [a],H)∧SeenX H a (Y2 ((X.map LT.tbl).set i ⟨T.tbl.nm,cols,T.tbl.key,T.tbl.fgn,T.tbl.idx⟩))∧IsL H a:=by
 have hs:=hg.at';have b:=Ve hi;have q:=(Vb.1 (hs.ht T b).c).1;have d:lt≠T.lc:=fun e=>hs.ne b (by rw[e];simp[LT.pl]);have h3:=hg.h3;have lo:=hg.lo.2 T b T.lc (by simp[LT.pl]);have e:(X.map Zn).set i (Zn T)=X.map Zn:=by rw[←V9,Zi4 hi]
 refine Zq8 (G:=g.set T.lc (.rows 6 (cols.map Zh) true)++[.cells (Zb c)]) hg hi hX hsz cols [] (.own T.lc cols.length) Dead.nil (.inl ⟨rfl,rfl⟩) (by rw[Vv];exact gL (Vf q) _) ?_ (fun l h u s=>?_) (by simp) ?_ ?_
 ·rw[gL (show(g.set T.lc (.rows 6 (cols.map Zh) true))[lt]?=_ from(Vc (fun e=>d e.symm)).trans hs.tb),k];exact congrArg (fun r=>some (Blk.rows 5 r true)) e.symm
 ·rw[Vh (by rw[Vq];exact h),Vc (fun e=>s e.symm)]
 ·rw[ZR,ZV];refine VX.2 ⟨Yf (XK hg.sh.cl (Zw _)) (by simp),?_⟩;have:Zk [Blk.cells (Zb c)]=[]:=by simp[Zk,ZA,Wn]
  rw[this];rfl
 have h0:(g.set T.lc (.rows 6 (cols.map Zh) true)++[Blk.cells (Zb c)])[0]?=g[0]?:=by rw[Vh (by rw[Vq];omega),Vc (by omega)]
 have f:g.length≤(g.set T.lc (.rows 6 (cols.map Zh) true)++[Blk.cells (Zb c)]).length:=by simp
 exact Zk7 hg hi (by omega) m f h0
theorem ZBh(f:c.kd=5)(ht:FitT T.tbl){j:Nat}(h0:ixN c.nm (T.cols.map (·.nm)) 0=(j:Int))(hj:T.cols[j]?=some col):
  ∃H a,R K (.run 31 0 [.code (sqC 3 (f31.body.getD .skip))] (nsS x c lt n (i:Int)) g)=some (.agg [a],H)∧SeenX H a (Y2 ((X.map LT.tbl).set i ⟨T.tbl.nm,T.cols.eraseIdx j,T.tbl.key,T.tbl.fgn,T.tbl.idx⟩))∧IsL H a:=by
 have hs:=hg.at';have b:=Ve hi;have C:=(Vb.1 (hs.ht T b).c).1;have m:=(Vb.1 hs.tb).1;have p:lt≠T.lc:=fun e=>hs.ne b (by rw[e];simp[LT.pl]);have h3:=hg.h3;have lo:=hg.lo.2 T b T.lc (by simp[LT.pl]);have E:=hg.lo.1;have F:=Zzb hs hi ht f h0 hj;have q:=(Vb.1 hj).1;generalize u:([[.str [],I 0,.bool false,I 0,I 0,.str []]]:List (List AV))=D at *;have v:Dead D:=by rw[←u];exact⟨by simp[Zz,Zg,locs],by simp[eqR,eqL,eqA];decide⟩
 have dl:D.length=1:=by rw[←u];rfl
 have J:(T.cols.eraseIdx j).length=T.cols.length-1:=by rw[U9,Vr q]
 generalize k:AV.vw T.lc T.cols.length 0 (T.cols.length-1)=r at *;generalize d:(g.set T.lc (.rows 6 ((T.cols.eraseIdx j).map Zh++D) true)).set lt (.rows 5 ((X.map Zn).set i [.str T.nm,r,.own T.lk T.key.length,.own T.lf T.fs.length,.own T.li T.is.length]) true)=A at *;have s:A.length=g.length:=by rw[←d];simp
 refine Zq8 (G:=A++[.cells (Zb c)]) hg hi hX hsz (T.cols.eraseIdx j) D r v (.inr (by rw[←k,dl,J];congr 1;omega)) (gL ?_ _) (gL ?_ _) (fun l h M N=>?_) (by simp[s]) ?_ (Zk7 hg hi (.inl f) F (by simp[s]) ?_)
 ·rw[←d,Vc p];exact Vf C
 ·rw[←d];exact Vf (by simpa using m)
 ·rw[Vh (by omega),←d,Vc (fun e=>M e.symm),Vc (fun e=>N e.symm)]
 ·rw[ZR,ZV];refine VX.2 ⟨Yf (n:=g.length) ?_ (by simp[s]),?_⟩
  ·rw[←d];refine ZM (XK hg.sh.cl (by rw[ZA,Xg,Zw,v.1];rfl)) ?_;have:=Qr (n:=g.length) (i:=i) (row:=[.str T.nm,r,.own T.lk T.key.length,.own T.lf T.fs.length,.own T.li T.is.length]) hs hg.sh.cl (Vw _) fun y w=>W8 hs hi y (by rw[←k]at w;simpa[Zn,Zg,locs]using w)
   exact this
  have:Zk [Blk.cells (Zb c)]=[]:=by simp[Zk,ZA,Wn]
  rw[this];rfl
 rw[Vh (by omega),←d,Vc (by omega),Vc (by omega)]
theorem ZAE(k:c.kd=6)(ht:FitT T.tbl){j:Nat}(h0:ixN c.nm (T.cols.map (·.nm)) 0=(j:Int))(hj:T.cols[j]?=some col)(q:T.own):
  ∃H a,R K (.run 31 0 [.code (sqC 3 (f31.body.getD .skip))] (nsS x c lt n (i:Int)) g)=some (.agg [a],H)∧SeenX H a (Y2 ((X.map LT.tbl).set i (Zfh T.tbl j col c)))∧IsL H a:=by
 have hs:=hg.at';have d:=Ve hi;have y:=(Vb.1 hs.tb).1;have r:∀l,l∈T.pl→l≠lt:=fun l C e=>hs.ne d (e▸C);have Q:=hsz T d;have h3:=hg.h3;have D:0∉T.pl:=fun h=>by have:=hg.lo.2 T d 0 h;omega
 obtain⟨A,E,s,F,u,J⟩:=ZxG hs hg.sh hi ht k h0 hj q ⟨by omega,by omega⟩;generalize b:(⟨T.nm,T.cols.set j {col with nm:=c.nm2},T.lc,Yv c.nm c.nm2 T.key,T.lk,T.fs.map fun a=>⟨{a.f with cols:=Yv c.nm c.nm2 a.f.cols},a.l⟩,T.lf,T.is.map fun a=>⟨{a.x with cols:=Yv c.nm c.nm2 a.x.cols},a.l⟩,T.li⟩:LT)=v at *;have M:ZZ v.toW=Zn T:=by rw[LT.toW_row,←b];simp[Zn,WF]
 have w:v.toW.pl=T.pl:=by rw[LT.toW_pl,←b];simp[LT.pl,List.filterMap_map,PL]
 have N:v.toW.tbl=Zfh T.tbl j col c:=by rw[LT.toW_tbl,←b];simp[LT.tbl,Zfh,V8,PL]
 have e:(X.map Zn).set i (Zn T)=X.map Zn:=by rw[←V9,Zi4 hi]
 rw[←N];refine Zc6 (g':=A++[.cells (Zb c)]) (x:=x) (n:=n) (m:=(i:Int)) hg hi hX hsz ?_ (J.app _).toW (fun l h S O=>?_) (fun p P=>.inl (by rwa [w]at P)) (by rw[w];exact Xu hs hi) (by simp[s]) ?_ ?_ (Zk7 hg hi (.inr (.inl k)) E (by simp[s]) ?_)
 ·rw[M,e];exact gL ((u lt fun h=>r lt h rfl).trans hs.tb) _
 ·rw[Vh (by omega)];exact u l O
 ·rw[ZR,ZV];refine VX.2 ⟨Yf F (by simp[s]),?_⟩;have:Zk [Blk.cells (Zb c)]=[]:=by simp[Zk,ZA,Wn]
  rw[this];rfl
 ·rw[←b];simp only[LT.toW,Vd];exact⟨by omega,by omega⟩
 rw[Vh (by omega)];exact u 0 D
end
section
variable{x:List Tbl}{c:Chg}{i:Nat}{t:Tbl}(o:Okc x c)(ht:ixN c.tb (x.map (·.nm)) 0=(i:Int))(hi:x[i]?=some t)
include o ht hi
theorem ZDf(b:c.kd=15):∃v:Int,R K (.call 8 [ZX x,.agg (Zb c)] [])=some (I v,[])∧R K (.call 9 [ZX x,.agg (Zb c)] [])=some (I v,[]):=by
 have f:=o.fit.tbl _ (Ve hi);have d:c.cls.length≤1000000:=by have:=o.g.cls;omega
 refine JU o (.inr (by omega)) (ZEA o ht hi b) ?_ fun k=>?_
 ·have:=ZxN o.fit f d ht hi b;rw[this];unfold Wz;rw[Vm (by omega),Vm (by omega),Vm (by omega),Vm (by omega),Vm (by omega),Vm (by omega),Vm (by omega),Zuy]
 obtain⟨g,lt,X,n,T,hg,m,hX,hsz,p,rfl,_,e⟩:=QD o ht hi;have h0:(Xs T.cols [] [] c.cls).1=0:=by apply S9;intro h;rw[Vm (show ¬(Xs T.tbl.cols [] [] c.cls).1=0 from h)]at k;exact h k
 obtain⟨H,a,q,l,r⟩:=Zxd (x:=x) (n:=n) hg p b hX hsz f d h0;rw[m,Q1 (W5 o.chk) hi]at l;exact⟨H,a,e.trans q,l,r⟩
theorem ZCL(b:c.kd=5∨c.kd=6∨c.kd=7∨c.kd=8∨c.kd=9∨c.kd=10)(h0:ixN c.nm (t.cols.map (·.nm)) 0<0):∃v:Int,R K (.call 8 [ZX x,.agg (Zb c)] [])=some (I v,[])∧R K (.call 9 [ZX x,.agg (Zb c)] [])=some (I v,[]) :=
 JU o (.inr (by omega)) (ZDX o ht hi (by omega) h0 []) (ZnP o.fit 5 ht hi b (ZwL (o.fit.tbl _ (Ve hi)) h0)) fun h=>by omega
end
section
variable{x:List Tbl}{c:Chg}{i:Nat}{t:Tbl}(o:Okc x c)(ht:ixN c.tb (x.map (·.nm)) 0=(i:Int))(hi:x[i]?=some t)
include o ht hi
variable{j:Nat}{col:Col}(h0:ixN c.nm (t.cols.map (·.nm)) 0=(j:Int))(hj:t.cols[j]?=some col)
include h0 hj
theorem ZfP(b:c.kd=5∨c.kd=6∨c.kd=7∨c.kd=8∨c.kd=9∨c.kd=10):R K (.call 30 [ZX x,.agg (Zb c)] [])=some (I (ZlP x t c col),[]) :=
 ZnP o.fit _ ht hi b (ZCF o.fit (o.fit.tbl _ (Ve hi)) (by have:=o.g.nm2;omega) h0 hj b)
theorem ZDL(b:c.kd=5):∃v:Int,R K (.call 8 [ZX x,.agg (Zb c)] [])=some (I v,[])∧R K (.call 9 [ZX x,.agg (Zb c)] [])=some (I v,[]):=by
 refine JU o (.inr (by omega)) (p_5 o ht hi h0 hj b) ?_ fun p=>?_
 ·rw[ZfP o ht hi h0 hj (by omega)];unfold ZlP;rw[Vr b]
 have f:col.nm=c.nm:=by have:=ZaC _ 0 j (by rw[h0];simp);rw[Vj,hj]at this;simpa using this
 obtain⟨g,lt,X,n,T,hg,h,hX,hsz,k,rfl,_,e⟩:=QD o ht hi;obtain⟨H,a,l,d,m⟩:=ZBh (x:=x) (n:=n) hg k hX hsz b (o.fit.tbl _ (Ve hi)) h0 hj;rw[h,Q1 (W5 o.chk) hi,show T.cols.eraseIdx j=_ from ZrT ((W5 o.chk).at' hi) hj f]at d;exact⟨H,a,e.trans l,d,m⟩
theorem ZEi(b:c.kd=6):∃v:Int,R K (.call 8 [ZX x,.agg (Zb c)] [])=some (I v,[])∧R K (.call 9 [ZX x,.agg (Zb c)] [])=some (I v,[]):=by
 refine JU o (.inr (by omega)) (p_6 o ht hi h0 hj b) ?_ fun p=>?_
 ·rw[ZfP o ht hi h0 hj (by omega)];unfold ZlP;rw[Vm (by omega),Vr b]
 obtain⟨g,lt,X,n,T,hg,f,hX,hsz,h,rfl,k,e⟩:=QD o ht hi;obtain⟨H,a,l,d,m⟩:=ZAE (x:=x) (n:=n) hg h hX hsz b (o.fit.tbl _ (Ve hi)) h0 hj k;rw[f,ZrK (W5 o.chk) hi]at d;exact⟨H,a,e.trans l,d,m⟩
theorem ZDR(b:c.kd=7):∃v:Int,R K (.call 8 [ZX x,.agg (Zb c)] [])=some (I v,[])∧R K (.call 9 [ZX x,.agg (Zb c)] [])=some (I v,[]):=by
 refine JU o (.inr (by omega)) (p_7 o ht hi h0 hj b) ?_ fun p=>?_
 ·have h:col.nm=c.nm:=by have:=ZaC _ 0 j (by rw[h0];simp);rw[Vj,hj]at this;simpa using this
  rw[ZfP o ht hi h0 hj (by omega)];unfold ZlP;rw[Vm (by omega),Vm (by omega),Vr b,Zy4 o.chk (ZzK o ht hi) h]
 obtain⟨g,lt,X,n,T,hg,k,hX,hsz,d,rfl,_,e⟩:=QD o ht hi;obtain⟨H,a,l,f,m⟩:=Zmk (x:=x) (n:=n) hg d hX hsz _ (by simp) (ZlF hg.at' d (o.fit.tbl _ (Ve hi)) (.inl ⟨b,rfl⟩) h0 hj) (by omega);rw[k,Q1 (W5 o.chk) hi]at f;exact⟨H,a,e.trans l,f,m⟩
theorem ZEf(b:c.kd=8):∃v:Int,R K (.call 8 [ZX x,.agg (Zb c)] [])=some (I v,[])∧R K (.call 9 [ZX x,.agg (Zb c)] [])=some (I v,[]):=by
 refine JU o (.inr (by omega)) (p_8 o ht hi h0 hj b) ?_ fun m=>?_
 ·rw[ZfP o ht hi h0 hj (by omega)];unfold ZlP;rw[Vm (by omega),Vm (by omega),Vm (by omega),Vr b]
 obtain⟨g,lt,X,n,T,hg,h,hX,hsz,d,rfl,_,e⟩:=QD o ht hi;obtain⟨H,a,k,f,l⟩:=Zmk (x:=x) (n:=n) hg d hX hsz _ (by simp) (ZlF hg.at' d (o.fit.tbl _ (Ve hi)) (.inr (.inl ⟨b,rfl⟩)) h0 hj) (by omega);rw[h,Q1 (W5 o.chk) hi]at f;exact⟨H,a,e.trans k,f,l⟩
theorem ZEt(b:c.kd=9):∃v:Int,R K (.call 8 [ZX x,.agg (Zb c)] [])=some (I v,[])∧R K (.call 9 [ZX x,.agg (Zb c)] [])=some (I v,[]):=by
 refine JU o (.inr (by omega)) (p_9 o ht hi h0 hj b) ?_ fun m=>?_
 ·rw[ZfP o ht hi h0 hj (by omega)];unfold ZlP;rw[Vm (by omega),Vm (by omega),Vm (by omega),Vm (by omega),Vr b]
 obtain⟨g,lt,X,n,T,hg,h,hX,hsz,d,rfl,_,e⟩:=QD o ht hi;obtain⟨H,a,k,f,l⟩:=Zmk (x:=x) (n:=n) hg d hX hsz _ (by simp) (ZlF hg.at' d (o.fit.tbl _ (Ve hi)) (.inr (.inr (.inl ⟨b,rfl⟩))) h0 hj) (by omega);rw[h,Q1 (W5 o.chk) hi]at f;exact⟨H,a,e.trans k,f,l⟩
theorem ZC6(b:c.kd=10):∃v:Int,R K (.call 8 [ZX x,.agg (Zb c)] [])=some (I v,[])∧R K (.call 9 [ZX x,.agg (Zb c)] [])=some (I v,[]):=by
 refine JU o (.inr (by omega)) (ZEz o ht hi h0 hj b) ?_ fun m=>?_
 ·rw[ZfP o ht hi h0 hj (by omega)];unfold ZlP;rw[Vm (by omega),Vm (by omega),Vm (by omega),Vm (by omega),Vm (by omega)]
 obtain⟨g,lt,X,n,T,hg,h,hX,hsz,d,rfl,_,e⟩:=QD o ht hi;obtain⟨H,a,k,f,l⟩:=Zmk (x:=x) (n:=n) hg d hX hsz _ (by simp) (ZlF hg.at' d (o.fit.tbl _ (Ve hi)) (.inr (.inr (.inr ⟨b,rfl⟩))) h0 hj) (by omega);rw[h,Q1 (W5 o.chk) hi]at f;exact⟨H,a,e.trans k,f,l⟩
end
theorem ZBr{c:Chg}(hx:SzX x 5)(hg:SmG c):∃v:Int,R K (.call 8 [ZX x,.agg (Zb c)] [])=some (I v,[])∧R K (.call 9 [ZX x,.agg (Zb c)] [])=some (I v,[]):=by
 have d:FitX x:=hx.fit (by omega);by_cases h0:X8 x=0
 ·by_cases hk:1≤c.kd∧c.kd≤15
  ·cases hf:ZgW c with
   |false=>exact⟨3,Yo (.inl rfl) (Zzn x c d h0 hk (by have:=Zfk c hk hg.smc;rwa [hf]at this)),ZyR d h0 hk hg.smc hf⟩
   |true =>
    have o:Okc x c:=⟨hx,h0,hk,hf,hg⟩;by_cases e:c.kd=1
    ·exact ZEn o e
    rcases Q5 c.tb (x.map (·.nm))with ht|⟨i,ht,hi⟩
    ·exact⟨5,Zy5 o.fit o.sm o.len o.chk o.kd o.pf e ht,ZxP d h0 hk hg.smc hf e ht⟩
    rw[Vj,UT]at hi;obtain⟨t,hi,_⟩:=hi;have:c.kd=2∨c.kd=3∨c.kd=4∨(c.kd=5∨c.kd=6∨c.kd=7∨c.kd=8∨c.kd=9∨c.kd=10)∨c.kd=11∨c.kd=12∨c.kd=13∨c.kd=14∨c.kd=15:=by omega
    rcases this with h|h|h|h|h|h|h|h|h
    ·exact ZD7 o ht hi h
    ·exact ZEx o ht hi h
    ·exact ZEe o ht hi h
    ·rcases Q5 c.nm (t.cols.map (·.nm))with b|⟨j,b,hj⟩
     ·exact ZCL o ht hi h b
     rw[Vj,UT]at hj;obtain⟨col,hj,_⟩:=hj;rcases h with h|h|h|h|h|h
     ·exact ZDL o ht hi b hj h
     ·exact ZEi o ht hi b hj h
     ·exact ZDR o ht hi b hj h
     ·exact ZEf o ht hi b hj h
     ·exact ZEt o ht hi b hj h
     exact ZC6 o ht hi b hj h
    ·exact ZDb o ht hi h
    ·exact ZCj o ht hi h
    ·exact ZDe o ht hi h
    ·exact ZCH o ht hi h
    exact ZDf o ht hi h
  exact⟨4,Yo (.inl rfl) (Zx1 x c d h0 hk),Zy7 d h0 hk⟩
 exact⟨X8 x,Yo (.inl rfl) (ZrG x c d h0),Zsj d h0⟩
def JO:Col:=⟨[],0,false,⟨0,0,[]⟩⟩
def XI:Idx:=⟨[],[],false⟩
def XG:Fgn:=⟨[],[],[]⟩
section
variable{L:List Int}{a B:Int}
theorem ZzT{a0:Int}{X1 X2:List AV}(f:Zg X1=[])(h:Zg X2=[]){t:Tbl}{c:Chg}{l:List Int}(C:l.length≤20)(r:∀x∈l,0≤x∧x<(t.cols.length:Int)):∀(q j:Nat) (e:List (List UInt8)),l.length=j+q→e.length=j→1≤j →
  ∃b:List (List UInt8),b.length=l.length∧∀(ks:List It) (m:Code) (jj:Int),YP f7 1 m→jj=(j:Int) →
  RL K (.run 7 1 (.code m::.lp m (some ([0,4,5,6,162,163,164],[])) 6::.blk 1 6::ks) [(0,.ptr 0 0),(4,.ptr 2 0),(5,.ptr 3 0),(6,.ptr 4 0),(162,.rows (W0 l)),(163,I (l.length:Int)),(164,I jj)]
   [.cells [LR L,I a0],.cells X1,.cells zC,.cells (Zc t),.cells (Zfv c .nils .nils (.own 6 e.length)),.cells X2,.rows 1 (SLs e) false]) =
  R K (.run 7 1 ks [(0,.ptr 0 0),(4,.ptr 2 0),(6,.ptr 4 0)] [.cells [LR L,I a0],.cells X1,.cells zC,.cells (Zc t),.cells (Zfv c .nils .nils (.own 6 b.length)),.cells X2,.rows 1 (SLs b) false])
 |0,j,e,D,hn,E=>by
  have d:¬(j:Int)<(l.length:Int):=by omega
  refine⟨e,by omega,fun ks m jj p hj=>?_⟩;subst hj;simp only[zC,Zfv,Zc];simp only[go_sem,simprocAttr,f7]at p;subst p;rw[Ze];simp only[go_sem,simprocAttr,d,Zv,f,h]
  done
 |q+1,j,e,D,hn,E=>by
  have d:(j:Int)<(l.length:Int):=by omega
  have F:=ZQ (i:=j) (n:=l.length) (by omega) (by omega);obtain⟨y,w⟩:=Zu (l:=l) (i:=j) (by omega);have P:=r y (Ve w);obtain⟨u,H⟩:∃k:Nat,y=(k:Int):=⟨y.toNat,by omega⟩;subst H;obtain⟨col,s⟩:=Zu (l:=t.cols) (i:=u) (by omega);have J:at? (W0 l) (j:Int)=some [I (u:Int)]:=ZW (by simp[W0,w]);have A:=Ym s;obtain⟨b,M,v⟩:=ZzT (a0:=a0) (c:=c) f h C r q (j+1) (e++[col.nm]) (by omega) (by simp[hn]) (by omega);refine⟨b,M,fun ks m jj p hj=>?_⟩;subst hj;have v:=v ks m _ p rfl;have N:((e.length+1)*17≤Zp)=True:=V5 (by unfold Zp;omega);have O:SLs e++[[AV.str col.nm]]=SLs (e++[col.nm]):=by simp[SLs]
  simp only[zC,Zfv,Zc,Vu,VC,VI,VZ]at v ⊢;simp only[Zh]at A;simp only[go_sem,simprocAttr,f7]at p;subst p;rw[Ze];simp only[go_sem,simprocAttr,d,F,J,A,N,O,Yh,Vd,Zv,Zw,f,h];exact v
set_option maxHeartbeats 4000000 in
theorem Zut(h:Gd L a B)(hB:1000≤B)(x:List Tbl)(m:Nat)(hm:m≤100)(hx:SzX x m):∃(c:Chg) (a':Int),R K (.call 7 [.ptr 0 0,ZX x] (St L a))=some (.agg (Zb c),St L a')∧a≤a'∧a'≤a+1000∧SmG c:=by
 have l1:=hx.l1;have l3:=hx.l3;have N:((x.length:Int)==0)=false:=by rw[VR];omega
 have E:=Xk h (by omega) 8;have h1:=h.step (a+1) (B-1) (by omega) (by omega);cases e0:ZS L a 8==0 with
 |true =>
  rw[e0]at E;have F:=Yb h1 (by omega) 3;have h2:=h1.step (a+1+1) (B-2) (by omega) (by omega);obtain⟨s,ms,q0⟩:=Je (l:=[[116,120],[116,97],[116,121]]) (ZD L (a+1) 3 (by omega) (by omega));have ls:s.length≤100:=(by decide:∀s∈([[116,120],[116,97],[116,121]]:List (List UInt8)),s.length≤100) s ms;simp only[SLs,Vz,VO]at q0;obtain⟨t,a',H,Y,Z,d,q4⟩:=Zqc h2 (by omega) s ls;refine⟨⟨1,[],[],[],JO,XI,XG,t,[]⟩,a',?_,by omega,by omega,⟨by simp,by simp,by simp,by simp[JO],by simp[XI],by simp[XI],by simp[XG],by simp[XG],by simp,⟨d.nm,d.cols.len,d.cols.nm,d.key,d.fgn,d.idx.1,d.idx.2,d.rise.2⟩⟩⟩;simp only[Yk,Zc]at H;rw[ZsY];simp only[go_sem,simprocAttr,f7,E,F,H,N,q0,Vd];simp[Zb,JO,XI,XG]
 |false =>
  rw[e0]at E;have F:=Yb h1 (by omega) (x.length:Int);have b1:=ZD L (a+1) (x.length:Int) (by omega) (by omega);obtain⟨u,hu⟩:∃k:Nat,ZS L (a+1) (x.length:Int)=(k:Int):=⟨(ZS L (a+1) (x.length:Int)).toNat,by omega⟩;rw[hu]at F b1;obtain⟨t,ht⟩:=Zu (l:=x) (i:=u) (by omega);have st:=hx.tbl t (Ve ht);have c1:=st.c1;have cl:=st.cl;have O:=YF ht;have h2:=h1.step (a+1+1) (B-2) (by omega) (by omega);have H:=WU h2 (by omega) 2 15 (by omega) (by omega) (by omega);have b2:=Wd L (a+1+1) 2 15 (by omega) (by omega);have h3:=h2.step (a+1+1+1) (B-3) (by omega) (by omega);have P:=Yb h3 (by omega) (t.cols.length:Int);have b3:=ZD L (a+1+1+1) (t.cols.length:Int) (by omega) (by omega);obtain⟨v,hv⟩:∃k:Nat,ZS L (a+1+1+1) (t.cols.length:Int)=(k:Int):=⟨(ZS L (a+1+1+1) (t.cols.length:Int)).toNat,by omega⟩;rw[hv]at P b3;obtain⟨col,a2⟩:=Zu (l:=t.cols) (i:=v) (by omega);have Q:=Ym a2;have p:=st.nm;have lc:=st.cn col (Ve a2);have q:=h3.step (a+1+1+1+1) (B-4) (by omega) (by omega);generalize ad:a+1+1+1+1=b at *;generalize Jq L (a+1+1) 2 15=kd at *;obtain⟨T,S⟩:∃T,sqR 1 (sqA 7 (f7.body.getD .skip))=T:=⟨_,rfl⟩;obtain⟨U,W⟩:∃U,sqR 8 (f7.body.getD .skip)=U:=⟨_,rfl⟩;have a4:=S;have a5:=W;simp only[f7,sqR,sqA,VP]at a4 a5;have aa:kd=2∨kd=3∨kd=4∨kd=5∨kd=6∨kd=7∨kd=8∨kd=9∨kd=10∨kd=11∨kd=12∨kd=13∨kd=14∨kd=15:=by omega
  simp only[Zh]at Q;simp only[Zc]at O;rw[ZsY];simp only[f7];rw[a5,a4];rcases aa with rfl|rfl|rfl|rfl|rfl|rfl|rfl|rfl|rfl|rfl|rfl|rfl|rfl|rfl
  ·obtain⟨r,a',Y,Z,d,e⟩:=QP S W (q.step (b+1) (B-5) (by omega) (by omega)) (by omega) ⟨2,t.nm,[],[],JO,XI,XG,zT,[]⟩ (.a rfl rfl rfl) rfl ⟨p,by simp,by simp,by simp[JO],by simp[XI],by simp[XI],by simp[XG],by simp[XG],by simp,QL⟩ (.cells [.rows (x.map Zc)]) (.cells (Zc t)) (.cells (Zh col)) (ZS L b 10==0);have A:=Xk q (by omega) 10;refine⟨r,a',?_,by omega,by omega,d⟩;simp only[go_sem,simprocAttr,E,F,H,P,A,N,O,Q,Vd,Zc,Zh];exact e
  ·have y:=Yb q (by omega) 4;have C:=q.step (b+1) (B-5) (by omega) (by omega);obtain⟨ys,ym,D⟩:=Je (l:=[[116,122],[116,97],[97,48],[84]]) (ZD L b 4 (by omega) (by omega));have yl:ys.length≤100:=(by decide:∀s∈([[116,122],[116,97],[97,48],[84]]:List (List UInt8)),s.length≤100) ys ym;simp only[SLs,Vz,VO]at D;obtain⟨r,a',Y,Z,d,e⟩:=QP S W (C.step ((b+1)+1) (B-6) (by omega) (by omega)) (by omega) ⟨3,t.nm,ys,[],JO,XI,XG,zT,[]⟩ (.a rfl rfl rfl) rfl ⟨p,yl,by simp,by simp[JO],by simp[XI],by simp[XI],by simp[XG],by simp[XG],by simp,QL⟩ (.cells [.rows (x.map Zc)]) (.cells (Zc t)) (.cells (Zh col)) (ZS L (b+1) 10==0);have A:=Xk C (by omega) 10;refine⟨r,a',?_,by omega,by omega,d⟩;simp only[go_sem,simprocAttr,E,F,H,P,A,N,O,Q,Vd,Zc,Zh,y,D];exact e
  ·have y:=Yb q (by omega) 3;have C:=q.step (b+1) (B-5) (by omega) (by omega);obtain⟨ys,ym,D⟩:=Je (l:=[[99,120],[99,97],[99,121]]) (ZD L b 3 (by omega) (by omega));have yl:ys.length≤100:=(by decide:∀s∈([[99,120],[99,97],[99,121]]:List (List UInt8)),s.length≤100) ys ym;simp only[SLs,Vz,VO]at D;obtain⟨nc,M,z,z1,z2,z3⟩:=Zjm C (by omega) ys;have J:=C.step M (B-30) (by omega) (by omega);simp only[Zh]at z;obtain⟨r,a',Y,Z,d,e⟩:=QP S W (J.step (M+1) (B-31) (by omega) (by omega)) (by omega) ⟨4,t.nm,[],[],nc,XI,XG,zT,[]⟩ (.a rfl rfl rfl) rfl ⟨p,by simp,by simp,by rw[z3];exact yl,by simp[XI],by simp[XI],by simp[XG],by simp[XG],by simp,QL⟩ (.cells [.rows (x.map Zc)]) (.cells (Zc t)) (.cells (Zh col)) (ZS L M 10==0);have A:=Xk J (by omega) 10;refine⟨r,a',?_,by omega,by omega,d⟩;simp only[go_sem,simprocAttr,E,F,H,P,A,N,O,Q,Vd,Zc,Zh,y,D,z];exact e
  ·obtain⟨r,a',Y,Z,d,e⟩:=QP S W (q.step (b+1) (B-5) (by omega) (by omega)) (by omega) ⟨5,t.nm,col.nm,[],JO,XI,XG,zT,[]⟩ (.a rfl rfl rfl) rfl ⟨p,lc,by simp,by simp[JO],by simp[XI],by simp[XI],by simp[XG],by simp[XG],by simp,QL⟩ (.cells [.rows (x.map Zc)]) (.cells (Zc t)) (.cells (Zh col)) (ZS L b 10==0);have A:=Xk q (by omega) 10;refine⟨r,a',?_,by omega,by omega,d⟩;simp only[go_sem,simprocAttr,E,F,H,P,A,N,O,Q,Vd,Zc,Zh];exact e
  ·have y:=Yb q (by omega) 4;have C:=q.step (b+1) (B-5) (by omega) (by omega);obtain⟨ys,ym,D⟩:=Je (l:=[[99,122],[99,97],[67],[105,100]]) (ZD L b 4 (by omega) (by omega));have yl:ys.length≤100:=(by decide:∀s∈([[99,122],[99,97],[67],[105,100]]:List (List UInt8)),s.length≤100) ys ym;simp only[SLs,Vz,VO]at D;obtain⟨r,a',Y,Z,d,e⟩:=QP S W (C.step ((b+1)+1) (B-6) (by omega) (by omega)) (by omega) ⟨6,t.nm,col.nm,ys,JO,XI,XG,zT,[]⟩ (.a rfl rfl rfl) rfl ⟨p,lc,yl,by simp[JO],by simp[XI],by simp[XI],by simp[XG],by simp[XG],by simp,QL⟩ (.cells [.rows (x.map Zc)]) (.cells (Zc t)) (.cells (Zh col)) (ZS L (b+1) 10==0);have A:=Xk C (by omega) 10;refine⟨r,a',?_,by omega,by omega,d⟩;simp only[go_sem,simprocAttr,E,F,H,P,A,N,O,Q,Vd,Zc,Zh,y,D];exact e
  ·have y:=WU q (by omega) 0 4 (by omega) (by omega) (by omega);have C:=q.step (b+1) (B-5) (by omega) (by omega);obtain⟨r,a',Y,Z,d,e⟩:=QP S W (C.step ((b+1)+1) (B-6) (by omega) (by omega)) (by omega) ⟨7,t.nm,col.nm,[],⟨[],Jq L b 0 4,false,⟨0,0,[]⟩⟩,XI,XG,zT,[]⟩ (.a rfl rfl rfl) rfl ⟨p,lc,by simp,by simp,by simp[XI],by simp[XI],by simp[XG],by simp[XG],by simp,QL⟩ (.cells [.rows (x.map Zc)]) (.cells (Zc t)) (.cells (Zh col)) (ZS L (b+1) 10==0);have A:=Xk C (by omega) 10;refine⟨r,a',?_,by omega,by omega,d⟩;simp only[go_sem,simprocAttr,E,F,H,P,A,N,O,Q,Vd,Zc,Zh,y];exact e
  ·obtain⟨r,a',Y,Z,d,e⟩:=QP S W (q.step (b+1) (B-5) (by omega) (by omega)) (by omega) ⟨8,t.nm,col.nm,[],JO,XI,XG,zT,[]⟩ (.a rfl rfl rfl) rfl ⟨p,lc,by simp,by simp[JO],by simp[XI],by simp[XI],by simp[XG],by simp[XG],by simp,QL⟩ (.cells [.rows (x.map Zc)]) (.cells (Zc t)) (.cells (Zh col)) (ZS L b 10==0);have A:=Xk q (by omega) 10;refine⟨r,a',?_,by omega,by omega,d⟩;simp only[go_sem,simprocAttr,E,F,H,P,A,N,O,Q,Vd,Zc,Zh];exact e
  ·obtain⟨w,M,z,z1,z2,z3,z4⟩:=Zhs q (by omega) col.kd;have J:=q.step M (B-20) (by omega) (by omega);simp only[enc]at z;obtain⟨r,a',Y,Z,d,e⟩:=QP S W (J.step (M+1) (B-21) (by omega) (by omega)) (by omega) ⟨9,t.nm,col.nm,[],⟨[],0,false,w⟩,XI,XG,zT,[]⟩ (.a rfl rfl rfl) rfl ⟨p,lc,by simp,by simp,by simp[XI],by simp[XI],by simp[XG],by simp[XG],by simp,QL⟩ (.cells [.rows (x.map Zc)]) (.cells (Zc t)) (.cells (Zh col)) (ZS L M 10==0);have A:=Xk J (by omega) 10;refine⟨r,a',?_,by omega,by omega,d⟩;simp only[go_sem,simprocAttr,E,F,H,P,A,N,O,Q,Vd,Zc,Zh,z];exact e
  ·obtain⟨w,M,z,z1,z2,z3,z4⟩:=Zhs q (by omega) col.kd;have J:=q.step M (B-20) (by omega) (by omega);simp only[enc]at z;obtain⟨r,a',Y,Z,d,e⟩:=QP S W (J.step (M+1) (B-21) (by omega) (by omega)) (by omega) ⟨10,t.nm,col.nm,[],⟨[],0,false,w⟩,XI,XG,zT,[]⟩ (.a rfl rfl rfl) rfl ⟨p,lc,by simp,by simp,by simp[XI],by simp[XI],by simp[XG],by simp[XG],by simp,QL⟩ (.cells [.rows (x.map Zc)]) (.cells (Zc t)) (.cells (Zh col)) (ZS L M 10==0);have A:=Xk J (by omega) 10;refine⟨r,a',?_,by omega,by omega,d⟩;simp only[go_sem,simprocAttr,E,F,H,P,A,N,O,Q,Vd,Zc,Zh,z];exact e
  ·have y:=Yb q (by omega) 2;have C:=q.step (b+1) (B-5) (by omega) (by omega);obtain⟨ys,ym,D⟩:=Je (l:=[[105,120],[105,97]]) (ZD L b 2 (by omega) (by omega));have yl:ys.length≤100:=(by decide:∀s∈([[105,120],[105,97]]:List (List UInt8)),s.length≤100) ys ym;simp only[SLs,Vz,VO]at D;have z:=Xk C (by omega) 2;have J:=C.step (b+1+1) (B-6) (by omega) (by omega);obtain⟨r,a',Y,Z,d,e⟩:=QP S W (J.step ((b+1+1)+1) (B-7) (by omega) (by omega)) (by omega) ⟨11,t.nm,[],[],JO,⟨ys,[col.nm],ZS L (b+1) 2==0⟩,XG,zT,[]⟩ (.x _ rfl rfl rfl) rfl ⟨p,by simp,by simp,by simp[JO],yl,by simp,by simp[XG],by simp[XG],by simp,QL⟩ (.cells [.rows (x.map Zc)]) (.cells (Zc t)) (.cells (Zh col)) (ZS L (b+1+1) 10==0);have A:=Xk J (by omega) 10;refine⟨r,a',?_,by omega,by omega,d⟩;simp only[go_sem,simprocAttr,E,F,H,P,A,N,O,Q,Vd,Zc,Zh,y,D,z];exact e
  ·have y:=Yb q (by omega) 2;have C:=q.step (b+1) (B-5) (by omega) (by omega);obtain⟨ys,ym,D⟩:=Je (l:=[[105,97],[105,98]]) (ZD L b 2 (by omega) (by omega));have yl:ys.length≤100:=(by decide:∀s∈([[105,97],[105,98]]:List (List UInt8)),s.length≤100) ys ym;simp only[SLs,Vz,VO]at D;obtain⟨r,a',Y,Z,d,e⟩:=QP S W (C.step ((b+1)+1) (B-6) (by omega) (by omega)) (by omega) ⟨12,t.nm,ys,[],JO,XI,XG,zT,[]⟩ (.a rfl rfl rfl) rfl ⟨p,yl,by simp,by simp[JO],by simp[XI],by simp[XI],by simp[XG],by simp[XG],by simp,QL⟩ (.cells [.rows (x.map Zc)]) (.cells (Zc t)) (.cells (Zh col)) (ZS L (b+1) 10==0);have A:=Xk C (by omega) 10;refine⟨r,a',?_,by omega,by omega,d⟩;simp only[go_sem,simprocAttr,E,F,H,P,A,N,O,Q,Vd,Zc,Zh,y,D];exact e
  ·have z:=Yb q (by omega) (x.length:Int);have J:=q.step (b+1) (B-5) (by omega) (by omega);have zb:=ZD L b (x.length:Int) (by omega) (by omega);obtain⟨w,hw⟩:∃k:Nat,ZS L b (x.length:Int)=(k:Int):=⟨(ZS L b (x.length:Int)).toNat,by omega⟩;rw[hw]at z zb;obtain⟨t2,ab⟩:=Zu (l:=x) (i:=w) (by omega);have a6:=YF ab;simp only[Zc]at a6;have y:=Yb J (by omega) 2;have C:=J.step ((b+1)+1) (B-6) (by omega) (by omega);obtain⟨ys,ym,D⟩:=Je (l:=[[102,120],[102,97]]) (ZD L (b+1) 2 (by omega) (by omega));have yl:ys.length≤100:=(by decide:∀s∈([[102,120],[102,97]]:List (List UInt8)),s.length≤100) ys ym;simp only[SLs,Vz,VO]at D;obtain⟨r,a',Y,Z,d,e⟩:=QP S W (C.step ((b+1+1)+1) (B-7) (by omega) (by omega)) (by omega) ⟨13,t.nm,[],[],JO,XI,⟨ys,[col.nm],t2.nm⟩,zT,[]⟩ (.f _ _ rfl rfl rfl) rfl ⟨p,by simp,by simp,by simp[JO],by simp[XI],by simp[XI],yl,by simp,by simp,QL⟩ (.cells [.rows (x.map Zc)]) (.cells (Zc t)) (.cells (Zh col)) (ZS L (b+1+1) 10==0);have A:=Xk C (by omega) 10;refine⟨r,a',?_,by omega,by omega,d⟩;simp only[go_sem,simprocAttr,E,F,H,P,A,N,O,Q,Vd,Zc,Zh,z,a6,y,D];exact e
  ·have y:=Yb q (by omega) 2;have C:=q.step (b+1) (B-5) (by omega) (by omega);obtain⟨ys,ym,D⟩:=Je (l:=[[102,97],[102,98]]) (ZD L b 2 (by omega) (by omega));have yl:ys.length≤100:=(by decide:∀s∈([[102,97],[102,98]]:List (List UInt8)),s.length≤100) ys ym;simp only[SLs,Vz,VO]at D;obtain⟨r,a',Y,Z,d,e⟩:=QP S W (C.step ((b+1)+1) (B-6) (by omega) (by omega)) (by omega) ⟨14,t.nm,ys,[],JO,XI,XG,zT,[]⟩ (.a rfl rfl rfl) rfl ⟨p,yl,by simp,by simp[JO],by simp[XI],by simp[XI],by simp[XG],by simp[XG],by simp,QL⟩ (.cells [.rows (x.map Zc)]) (.cells (Zc t)) (.cells (Zh col)) (ZS L (b+1) 10==0);have A:=Xk C (by omega) 10;refine⟨r,a',?_,by omega,by omega,d⟩;simp only[go_sem,simprocAttr,E,F,H,P,A,N,O,Q,Vd,Zc,Zh,y,D];exact e
  obtain⟨l,M,p1,p2,p3,z⟩:=Zq7 q t.cols.length c1 (by omega) (by omega);have J:=q.step M (B-24) (by omega) (by omega);have ll:=p1.1;have a7:∀y∈l,0≤y∧y<(t.cols.length:Int):=fun y hy=>p1.2 y hy;obtain⟨y0,a8⟩:=Zu (l:=l) (i:=0) (by omega);have hb:=a7 y0 (Ve a8);obtain⟨w,hw⟩:∃k:Nat,y0=(k:Int):=⟨y0.toNat,by omega⟩;subst hw;obtain⟨c0,ac⟩:=Zu (l:=t.cols) (i:=w) (by omega);have gy:at? (W0 l) 0=some [I (w:Int)]:=ZW (i:=0) (by simp[W0,a8]);have a9:=Ym ac;simp only[Zh]at a9;obtain⟨a3,n1,lp⟩:=ZzT (L:=L) (a0:=M) (X1:=[.rows (x.map Zc)]) (X2:=Zh col) (by simp[Zg,locs]) (by simp[Zh,Zg,locs]) (t:=t) (c:=⟨15,t.nm,[],[],JO,XI,XG,zT,[]⟩) (l:=l) (by omega) a7 (l.length-1) 1 [c0.nm] (by omega) rfl (by omega);obtain⟨r,a',Y,Z,d,e⟩:=QP S W (J.step (M+1) (B-25) (by omega) (by omega)) (by omega) ⟨15,t.nm,[],[],JO,XI,XG,zT,a3⟩ (.o rfl rfl (by show a3.length≤6;omega)) rfl ⟨p,by simp,by simp,by simp[JO],by simp[XI],by simp[XI],by simp[XG],by simp[XG],by show a3.length≤7;omega,QL⟩ (.cells [.rows (x.map Zc)]) (.cells (Zc t)) (.cells (Zh col)) (ZS L M 10==0);have A:=Xk J (by omega) 10;refine⟨r,a',?_,by omega,by omega,d⟩;have rm:(17≤Zp)=True:=V5 (by unfold Zp;omega);have dl:(0:Int)<(l.length:Int):=by omega
  simp only[go_sem,simprocAttr,E,F,H,P,z,N,O,Q,Vd,Zc,Zh];rw[Ze];simp only[go_sem,simprocAttr,dl,gy,a9,rm,Zkz,Vd];simp only[Zfv,zC,Zc,Zh,SLs,Vz,VO,VC,VI,VZ,JO,XI,XG]at lp;rw[lp _ _ 1 ?_ rfl]
  rotate_left
  ·rfl
  simp only[go_sem,simprocAttr,A,Zfv];exact e
end
section
variable{L:List Int}
theorem ZAs(x:List Tbl)(hx:SzX x 5):∀(q j:Nat) (a B:Int),6=j+q→Gd L a B→(1000*q:Int)≤B →
  ∃a':Int,∀(ks:List It) (b:Code) (jj:Int),YP f3 0 b→jj=(j:Int) →
  RL K (.run 3 0 (.code b::.lp b (some ([3,4,16],[])) 2::.blk 0 2::ks) [(3,.ptr 0 0),(4,.ptr 1 0),(16,I jj)] [.cells [LR L,I a],.cells [.rows (x.map Zc)]]) =
  R K (.run 3 0 ks [] [.cells [LR L,I a'],.cells [.rows (x.map Zc)]])
 |0,j,a,B,r,f,h=>by
  have d:¬(j:Int)<6:=by omega
  refine⟨a,fun ks b jj e hj=>?_⟩;subst hj;simp only[go_sem,simprocAttr,f3]at e;subst e;rw[Ze];simp only[go_sem,simprocAttr,d]
 |q+1,j,a,B,r,f,h=>by
  have d:(j:Int)<6:=by omega
  have s:=ZQ (i:=j) (n:=6) (by omega) (by omega);obtain⟨c,u,l,y,A,w⟩:=Zut f (by omega) x 5 (by omega) hx;obtain⟨v,m,p⟩:=ZBr hx w;obtain⟨a',k⟩:=ZAs x hx q (j+1) u (B-1000) (by omega) (f.step _ _ (by omega) (by omega)) (by omega);refine⟨a',fun ks b jj e hj=>?_⟩;subst hj;have k:=k ks b _ e rfl;simp only[ZX,Zb]at l m p;simp only[go_sem,simprocAttr,f3]at e;subst e;rw[Ze];simp only[go_sem,simprocAttr,d,s,l,m,p,bne,Sw,Zb];exact k
end
theorem Zom:R K (.call 10 [] [])=some (.bool true,[]):=Qn rfl
theorem ZfN(L:List Int)(s:L.length≤9223372036854775807):R K (.call 3 [LR L] [])=some (.bool true,[]):=by
 have l:Gd L 0 200000:=⟨by omega,by omega,s⟩;obtain⟨x,e,f,w,A,hx⟩:=Zt7 l (by omega);have m:=l.step e 100000 (by omega) (by omega);have d:=Xk m (by omega) 12;have h:=m.step (e+1) 90000 (by omega) (by omega);cases p:(ZS L e 12==0)
 ·obtain⟨a',b⟩:=ZAs (L:=L) x (hx.sz.more (by omega)) 6 0 (e+1) 90000 rfl h (by omega);have b:=fun ks B k=>b ks B 0 k rfl;rw[p]at d;simp only[ZX]at f d;rw[ZwQ];simp only[go_sem,simprocAttr,f3,f,d];rw[b _ _ (by rfl)];simp only[go_sem,simprocAttr,Zom]
 obtain⟨y,q,r,C,D,u⟩:=ZsK h (by omega) x _ (by omega) hx.sz;have v:=h.step q 80000 (by omega) (by omega);obtain⟨a',b⟩:=ZAs (L:=L) y (u.more (by omega)) 6 0 q 80000 rfl v (by omega);have b:=fun ks B k=>b ks B 0 k rfl;rw[p]at d;simp only[ZX]at f d r;rw[ZwQ];simp only[go_sem,simprocAttr,f3,f,d,r];rw[b _ _ (by rfl)];simp only[go_sem,simprocAttr,Zom]
end Go.Ab
