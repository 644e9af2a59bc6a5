/- What is proved: contracts of the program's and the reference's functions in the evaluator, and plain laws on them. Conditions: as each states. -/
import Derived.Test.YtddclolilenlkaaGreatDoorMQ2
set_option linter.unusedSimpArgs false
set_option linter.unusedSectionVars false
set_option linter.unusedVariables false
set_option maxRecDepth 100000
namespace Go.Ab
open Go Go.Proofs Go.Proofs.Tryz
variable{h h' m pre:Za}{a f:AV}{i kc l lt n p z:Nat}{D Q rs:List (List AV)}{args pure:List AV}{b:Blk}{cv:List AV→List AV→Int}{P:List AV→Prop}{col:Col}{α β:Type}{g:FuncId}{v:Int}{x:List Tbl}{c:Chg}
attribute [-go_sem] Zy Zs ZH Z1 ZL Yd Z0
theorem HT.cols'{h:Za}{t:LT}(s:HT h t){cols:List Col}(d:Lst h' a (cols.map Zh))(fr:∀l,l≠t.lc→l∈t.pl→h'[l]?=h[l]?)(u:t.pl.Nodup):
  SeenT h' [.str t.nm,a,.own t.lk t.key.length,.own t.lf t.fs.length,.own t.li t.is.length] {t.tbl with cols:=cols}:=by
 have r:=Vx.1 u;have o:∀l∈t.pl,l∉t.pl.tail→l=t.lc:=fun l q h2=>by
  rcases Vn.1 q with h|h
  ·exact h
  exact absurd h h2
 have j:∀l∈t.pl.tail,h'[l]?=h[l]?:=fun l q=>fr l (fun e=>r.1 (e▸q)) (VD _ q);have mf:∀a∈t.fs,∀l,a.l=some l→l∈t.pl.tail:=fun a d l e=>by simp only[LT.pl,List.tail_cons,Vn,Vg,VG];exact .inr (.inr (.inr (.inl ⟨a,d,e⟩)))
 have mi:∀a∈t.is,∀l,a.l=some l→l∈t.pl.tail:=fun a d l e=>by simp only[LT.pl,List.tail_cons,Vn,Vg,VG];exact .inr (.inr (.inr (.inr ⟨a,d,e⟩)))
 refine⟨a,.own t.lk t.key.length,.own t.lf t.fs.length,.own t.li t.is.length,t.fs.map ZF,t.is.map ZJ,rfl,d,.own t.lk 1 _ _ true ((j _ (by simp[LT.pl])).trans s.k) (Yh _),⟨.own t.lf 3 _ _ true ((j _ (by simp[LT.pl])).trans s.f) (by simp),?_⟩,.own t.li 3 _ _ true ((j _ (by simp[LT.pl])).trans s.i) (by simp),?_⟩
 ·exact Both.map fun a d=>⟨_,rfl,YG fun l e=>(j l (mf a d l e)).trans (s.fc a d l e)⟩
 exact Both.map fun a d=>⟨_,rfl,YG fun l e=>(j l (mi a d l e)).trans (s.ic a d l e)⟩
section
variable{h:Za}{kc lt i:Nat}{X:List LT}{T:LT}{c:Chg}
theorem ZjF(hs:SchAt h lt X)(u:h[kc]?=some (.cells (kcC lt X.length i c)))(hi:X[i]?=some T)(J:FitT T.tbl)(j:c.kd=4):
  R K (.call 121 [.ptr kc 0] h)=(if 0≤ixN c.col.nm (T.cols.map (·.nm)) 0 then some (I 6,h++[.cells (Zb c)])else if(!c.col.nl&&c.col.df.k==0)=true then some (I 9,h++[.cells (Zb c)])
   else some (I 0,(h.set T.lc (.rows 6 ((T.cols++[c.col]).map Zh) true)).set lt (.rows 5 ((X.map Zn).set i [.str T.nm,.own T.lc (T.cols.length+1),.own T.lk T.key.length,.own T.lf T.fs.length,.own T.li T.is.length]) true)++[.cells (Zb c)])):=by
 have d:=hs.ht T (Ve hi);have G:=(Vb.1 d.c).1;have o:h.length=h.length:=rfl;have C:(kc==h.length)=false:=by rw[VR];have:=(Vb.1 u).1;omega
 have w:(X.map Zn)[i]?=some (Zn T):=by rw[Vj,hi];rfl
 simp only[Zn]at w;have y:=JC T.tbl c.col.nm J.cols;rw[show(T.tbl.cols.map (·.nm))=T.cols.map (·.nm)from rfl]at y;have A:=fun t=>XO (d.app t).seen [.str c.col.nm] [.str c.col.nm] rfl;simp only[Zn]at A;have q:=fun t=>(d.app t).quiet 100 (ls:=[T.lc,T.lk,T.lf,T.li]) (by simp[LT.pl]);rw[Zbt];generalize ixN c.col.nm (T.cols.map (·.nm)) 0=m at *;by_cases r:0≤m
 ·rw[Vr r];simp only[go_sem,simprocAttr,f121,j,r,gL u,gL hs.tb,w,A,y,gL d.c,gL d.k,gL d.f,gL d.i,Zb,ZB,Zf,Vd,gA0 o,sA0 o,Ub,C,VN,VW,Vo,Vl,Vi]
  done
 rw[Vm r];have H:lt≠T.lc:=fun e=>(Vx.1 hs.ap).1 (V1.2 ⟨T,Ve hi,e▸VV⟩);have O:=(Vb.1 hs.tb).1;have E:∀b:Blk,(h.set T.lc b)[lt]?=some (.rows 5 (X.map Zn) true):=fun b=>by rw[Vc (fun e=>H e.symm)];exact hs.tb
 have L:∀b:Blk,(h.set T.lc b)[T.lc]?=some b:=fun b=>Vf G;have S:∀b:Blk,(h.set T.lc b).length=h.length:=fun b=>Vq;have F:T.cols.map Zh++[[.str c.col.nm,I c.col.kd,.bool c.col.nl,I c.col.df.k,I c.col.df.n,.str c.col.df.s]]=(T.cols++[c.col]).map Zh:=by simp[Zh]
 have M:(T.cols.length+1)*65≤Zp:=by have:=J.cols;unfold Zp;simp only[LT.tbl]at this;omega
 cases B:c.col.nl
 ·simp only[B]at F;cases N:(c.col.df.k==0)
  ·simp only[go_sem,simprocAttr,f121,j,r,gL u,gL hs.tb,w,A,y,gL d.c,gL d.k,gL d.f,gL d.i,Zb,B,N,sL d.c,gL (L _),gL (E _),sL (E _),F,M,ZB,Zf,Vd,gA0 o,sA0 o,Ub,C,VN,VW,Vo,Vl,Vi]
   done
  simp only[go_sem,simprocAttr,f121,j,r,gL u,gL hs.tb,w,A,y,gL d.c,gL d.k,gL d.f,gL d.i,Zb,B,N,ZB,Zf,Vd,gA0 o,sA0 o,Ub,C,VN,VW,Vo,Vl,Vi]
  done
 simp only[B]at F;simp only[go_sem,simprocAttr,f121,j,r,gL u,gL hs.tb,w,A,y,gL d.c,gL d.k,gL d.f,gL d.i,Zb,B,sL d.c,gL (L _),gL (E _),sL (E _),F,M,ZB,Zf,Vd,gA0 o,sA0 o,Ub,C,VN,VW,Vo,Vl,Vi]
 done
end
inductive Kd
 |kC|kT|kF|kI
noncomputable def Kd.zz:Kd→Nat
 |.kC=>6
 |.kT=>5
 |.kF| .kI=>3
noncomputable def Kd.zr:Kd→List AV
 |.kC=>[.str [],I 0,.bool false,I 0,I 0,.str []]
 |.kT=>[.str [],.nils,.nils,.nils,.nils]
 |.kF=>[.str [],.nils,.str []]
 |.kI=>[.str [],.nils,.bool false]
noncomputable def Kd.ty:Kd→TypeId
 |.kC=>41
 |.kT=>26
 |.kF=>42
 |.kI=>43
noncomputable def Kd.fn:Kd→FuncId
 |.kC=>212
 |.kT=>204
 |.kF=>71
 |.kI=>69
noncomputable def Kd.ix:Kd→FuncId
 |.kC=>14
 |.kT=>42
 |.kF=>136
 |.kI=>135
noncomputable def Kd.fnC:Kd→Func
 |.kC=>f212
 |.kT=>f204
 |.kF=>f71
 |.kI=>f69
theorem ZAK(k:Kd){h:Za}{lc n:Nat}{f:AV}{rs:List (List AV)}{pb:List AV→Bool}{ks:List It}(hn:rs.length=n)(H:n≤1000000)(o:lc<h.length)(u:Zi h.length (locs f)=true)(S:∀row∈rs,row.length=k.zz∧singles row=true)
  (E:∀(b:Blk) (t:Za) (row:List AV),row∈rs→ZE (h.set lc b++t) row=some row∨ZE (h.set lc b++t) row=none)
  (A:∀R',(∀row∈R',row∈rs)→Zi h.length (Zk (h.set lc (.rows k.zz R' true)))=true)
  (hc:∀(b:Blk) (t:Za) (row:List AV),row∈rs→ZU nlA (R K) (h.set lc b++t) [.agg row] f=some (.bool (pb row),h.set lc b++t)) :
  ∀(W:List (List AV)) (q j i:Nat) (Q:List (List AV)) (jj U:Int) (F:Code),YP k.fnC 0 F→n=j+q→jj=(j:Int)→U=(i:Int)→Q.length=i→i<j→(∀row∈Q,row∈rs)→Q++(rs.drop j).filter (fun r=>!pb r)=W →
  RL K (.run k.fn h.length (.code F::.lp F (some ([0,1,5,6],[])) h.length::.blk 0 h.length::ks) [(0,.own lc n),(1,f),(5,I U),(6,I jj)] (h.set lc (.rows k.zz (Q++rs.drop i) true))) =
  R K (.run k.fn h.length ks [(0,.own lc n),(5,I (W.length:Int))] (h.set lc (.rows k.zz (W++rs.drop W.length) true)))
 |W,0,j,i,Q,jj,U,F,C,hq,hj,hi,B,a0,J,G=>by
  subst hj hi;have d:¬(j:Int)<(n:Int):=by omega
  have e0:rs.drop j=[]:=V2 (by omega);rw[e0,List.filter_nil,Vv]at G;subst G;rw[B];have hd:(h.set lc (.rows k.zz (Q++rs.drop i) true)).length=h.length:=Vq;cases k
  all_goals
   simp only[Kd.zz,Kd.zr,Kd.ty,Kd.fn,Kd.ix,Kd.fnC]at *;simp only[go_sem,simprocAttr,f212,f204,f71,f69]at C;subst C;rw[Ze];have w:∀b:Blk,(h.set lc b).take h.length=h.set lc b:=fun b=>VM (by simp);simp only[go_sem,simprocAttr,d,hd,w]
 |W,q+1,j,i,Q,jj,U,F,C,hq,hj,hi,B,a0,J,G=>by
  subst hj hi;have L:=C;have d:(j:Int)<(n:Int):=by omega
  have h7:=ZQ (i:=j) (n:=n) (by omega) (by omega);have h8:=ZQ (i:=i) (n:=n) (by omega) (by omega);obtain⟨row,e⟩:=Zu (l:=rs) (i:=j) (by omega);have y:=Ve e;obtain⟨z1,M⟩:=S row y;have tk:row.take k.zz=row:=VM (by omega);have g1:at? (Q++rs.drop i) (j:Int)=some row:=ZW (by rw[Vy (by omega),B,Uc,show i+(j-i)=j by omega];exact e);have g2:(Q++rs.drop i)[j]?=some row:=by rw[Vy (by omega),B,Uc,show i+(j-i)=j by omega];exact e
  have lQ:(Q++rs.drop i).length=n:=by simp;omega
  have hs:∀b:Blk,(h.set lc b)[lc]?=some b:=fun b=>Vf o;have s:∀b:Blk,(h.set lc b).length=h.length:=fun b=>Vq;have w:∀b:Blk,(h.set lc b).take h.length=h.set lc b:=fun b=>VM (by simp);have ss:∀b b':Blk,(h.set lc b).set lc b'=h.set lc b':=fun b b'=>Uq ..;have N:=fun b t=>hc b t row y;have c1:=A (Q++rs.drop i) (fun r e=>(Vg.1 e).elim (J r) S4);rw[Y8 e]at G;cases Y:pb row
  ·have e1:(row::rs.drop (j+1)).filter (fun r=>!pb r)=row::(rs.drop (j+1)).filter (fun r=>!pb r):=by rw[PR,Y];rfl
   obtain⟨old,Z⟩:=Zu (l:=rs) (i:=i) (by omega);have e2:(Q++rs.drop i).set i row=(Q++[row])++rs.drop (i+1):=by rw[Sk _ _ (by omega),B,UJ,Y8 Z];simp
   have c2:=A ((Q++[row])++rs.drop (i+1)) (fun r e=>by
    rcases Vg.1 e with e|e
    ·rcases Vg.1 e with e|e
     ·exact J r e
     rw[VH.1 e];exact y
    exact S4 e)
   have g3:at? (Q++rs.drop i) (i:Int)=some old:=ZW (by rw[Vy (by omega),B,Uc,UJ,Ug];exact Z);have g4:(Q++rs.drop i)[i]?=some old:=by rw[Vy (by omega),B,Uc,UJ,Ug];exact Z
   have zo:=(S old (Ve Z)).1;have ih:=ZAK k hn H o u S E A hc (ks:=ks) W q (j+1) (i+1) (Q++[row]) _ _ F L (by omega) rfl rfl (by simp[B]) (by omega) (fun r e=>by
    rcases Vg.1 e with e|e
    ·exact J r e
    rw[VH.1 e];exact y) (by rw[←G,e1];simp)
   have od:old.drop k.zz=[]:=V2 (by omega);rw[Y]at N;have O:=E (.rows k.zz (Q++rs.drop i) true) [.cells row] row y;cases k
   all_goals
    simp only[Kd.zz,Kd.zr,Kd.ty,Kd.fn,Kd.ix,Kd.fnC]at *;simp only[go_sem,simprocAttr,f212,f204,f71,f69]at C;subst C;rw[Ze];rcases O with O|O
    ·simp only[go_sem,simprocAttr,O,M,od,u,d,h7,h8,g1,g2,g3,g4,zo,lQ,hs,gL (hs _),sL (hs _),ss,s,gA0 (s _),sA0 (s _),X6 (s _),w,o,Vk,N,z1,M,tk,e2,c1,c2,Pd,Vv,Vq];exact ih
    simp only[go_sem,simprocAttr,O,M,od,u,d,h7,h8,g1,g2,g3,g4,zo,lQ,hs,gL (hs _),sL (hs _),ss,s,gA0 (s _),sA0 (s _),X6 (s _),w,o,Vk,N,z1,M,tk,e2,c1,c2,Pd,Vv,Vq];exact ih
  have e1:(row::rs.drop (j+1)).filter (fun r=>!pb r)=(rs.drop (j+1)).filter (fun r=>!pb r):=by rw[PR,Y];rfl
  have ih:=ZAK k hn H o u S E A hc (ks:=ks) W q (j+1) i Q _ _ F L (by omega) rfl rfl B (by omega) J (by rw[←G,e1]);rw[Y]at N;cases k
  all_goals
   simp only[Kd.zz,Kd.zr,Kd.ty,Kd.fn,Kd.ix,Kd.fnC]at *;simp only[go_sem,simprocAttr,f212,f204,f71,f69]at C;subst C;rw[Ze];simp only[go_sem,simprocAttr,d,h7,h8,g1,g2,lQ,u,hs,gL (hs _),sL (hs _),ss,s,gA0 (s _),sA0 (s _),X6 (s _),w,o,Vk,N,z1,M,tk,c1,Pd,Vv,Vq];exact ih
theorem Zzs(k:Kd){h:Za}{lc:Nat}{pb:List AV→Bool}{m:Nat}{row0:List AV}(j:h[lc]?=some (.rows k.zz rs true))(o:rs.length=n)(q:n≤1000000)(s:Zi h.length (locs f)=true)(E:∀row∈rs,row.length=k.zz∧singles row=true)
  (u:∀(b:Blk) (t:Za) (row:List AV),row∈rs→ZE (h.set lc b++t) row=some row∨ZE (h.set lc b++t) row=none)
  (w:∀R',(∀row∈R',row∈rs)→Zi h.length (Zk (h.set lc (.rows k.zz R' true)))=true)
  (F:∀(b:Blk) (t:Za) (row:List AV),row∈rs→ZU nlA (R K) (h.set lc b++t) [.agg row] f=some (.bool (pb row),h.set lc b++t))
  (G:Zy 8 h [.own lc n,f]=some pure) (ix:R K (.call k.ix pure [])=some (I (m:Int),[])) (A:rs[m]?=some row0) (H:pb row0=true) (h2:∀row∈rs.take m,pb row=false) :
  R K (.call k.fn [.own lc n,f] h)=some (.vw lc n 0 (rs.filter fun r=>!pb r).length,h.set lc (.rows k.zz ((rs.filter fun r=>!pb r)++List.replicate (n-(rs.filter fun r=>!pb r).length) k.zr) true)):=by
 have hm:=(Vb.1 A).1;have e:=(Vb.1 j).1;have J:rs.filter (fun r=>!pb r)=rs.take m++(rs.drop (m+1)).filter fun r=>!pb r:=by
  conv=>lhs;rw[←Si m rs]
  rw[List.filter_append,Y8 A,PR,H,List.filter_eq_self.2 fun r y=>by simp[h2 r y]];rfl
 generalize L:(rs.filter fun r=>!pb r)=W at *;have d:((m:Int)==-1)=false:=by rw[VR];omega
 have M:=ZQ (i:=m) (n:=n) (by omega) (by omega);have same:h.set lc (.rows k.zz (rs.take m++rs.drop m) true)=h:=by
  rw[Si];apply UD;intro p;by_cases B:lc=p
  ·subst B;rw[Vf e,j]
  rw[Vc B]
 have C:=fun(ks:List It) Bo hB=>ZAK k (ks:=ks) o q e s E u w F W (n-(m+1)) (m+1) m (rs.take m) ((m+1:Nat):Int) (m:Int) Bo hB (by omega) rfl rfl (by simp;omega) (by omega) (fun r y=>Pv y) J.symm;rw[same]at C;have N:W.length≤n:=by rw[←L,←o];exact Po ..
 have O:∀b:Blk,(h.set lc b)[lc]?=some b:=fun b=>Vf e;have S:∀b b':Blk,(h.set lc b).set lc b'=h.set lc b':=fun b b'=>Uq ..;have U:∀b:Blk,(h.set lc b).length=h.length:=fun b=>Vq;have Y:Jp prog k.ty=some (.agg k.zr):=by cases k<;>rfl
 cases k
 all_goals
  simp only[Kd.zz,Kd.zr,Kd.ty,Kd.fn,Kd.ix,Kd.fnC]at *
  first|rw[Zvk]|rw[Zt6]|rw[ZxL]|rw[Zyc]
  simp only[go_sem,simprocAttr,f212,f204,f71,f69,G,ix,d,M,j];rw[C _ _ ?_]
  rotate_left
  ·rfl
  have Z:(0:Int)≤(W.length:Int):=by omega
  have b2:(W.length:Int)≤(n:Int):=by omega
  have b3:W.length+(rs.drop W.length).length=n:=by simp;omega
  have b4:W.length+(n-W.length)=n:=by omega
  have b5:(W++rs.drop W.length).take W.length=W:=Pl;have b6:(W++rs.drop W.length).drop n=[]:=V2 (by simp;omega);simp only[go_sem,simprocAttr,Y,O,S,U,N,o,Z,b2,b3,b4,b5,b6,Vk,Vu,Uh,Vv,PQ,V7,VZ,V4,Vw]
  done
theorem ZkE{z:Nat}:∀{rs:List (List AV)},(∀r∈rs,r.length=z)→Y1 z rs=true
 |[],_=>rfl
 |r::rs,h=>by simp only[Y1,h r VV,Sw,UC,ZkE fun x d=>h x (VD _ d)]
noncomputable def Kd.dl:Kd→FuncId
 |.kC=>137
 |.kT=>68
 |.kF=>224
 |.kI=>221
theorem Zyv(k:Kd){h:Za}{lc m:Nat}(q:h[lc]?=some (.rows k.zz rs true))(e:rs.length=n)(u:n≤1000000)(hm:m<n)(w:∀row∈rs,row.length=k.zz):
  R K (.call k.dl [.own lc n,I (m:Int),I ((m+1:Nat):Int)] h)=some (.vw lc n 0 (n-1),h.set lc (.rows k.zz (rs.eraseIdx m++[k.zr]) true)):=by
 have j:=(Vb.1 q).1;have y:∀b b':Blk,(h.set lc b).set lc b'=h.set lc b':=fun b b'=>Uq ..;have A:∀b:Blk,(h.set lc b)[lc]?=some b:=fun b=>Vf j;have B:Jp prog k.ty=some (.agg k.zr):=by cases k<;>rfl
 have d:(((m:Int))==((m+1:Nat):Int))=false:=by rw[VR];omega
 have C:(0:Int)≤(m:Int):=by omega
 have E:(m:Int)≤((m+1:Nat):Int):=by omega
 have F:((m+1:Nat):Int)≤(n:Int):=by omega
 have G:(m:Int)≤(n:Int):=by omega
 have H:(0:Int)≤((m+1:Nat):Int):=by omega
 have J:m+(n-(m+1))=n-1:=by omega
 have L:(m+1)+(n-(m+1))=n:=by omega
 have tk:(rs.drop (m+1)).take (n-(m+1))=rs.drop (m+1):=VM (by simp;omega);have M:0<n:=by omega
 have N:n-1≤n:=by omega
 have O:(0:Int)≤((n-1:Nat):Int):=by omega
 have S:((n-1:Nat):Int)≤(n:Int):=by omega
 have U:(0:Int)≤(n:Int):=by omega
 have s:(rs.eraseIdx m).length+(rs.drop (n-1)).length=n:=by rw[SA (by omega),e,SS,e];omega
 rw[SA (by omega),e,SS,e]at s;have Y:n-1+(n-(n-1))=n:=by omega
 have Z:n-(n-1)=1:=by omega
 have c5:n-1+1=n:=by omega
 have e0:rs.eraseIdx m=rs.take m++rs.drop (m+1):=List.eraseIdx_eq_take_drop_succ ..;have o:(rs.eraseIdx m).length=n-1:=by rw[SA (by omega),e]
 have e1:(rs.eraseIdx m++rs.drop (n-1)).take (n-1)=rs.eraseIdx m:=by rw[←o];exact Pl
 have e2:(rs.eraseIdx m++rs.drop (n-1)).drop n=[]:=V2 (by simp only[Vu,o,SS];omega);have al:Y1 k.zz (rs.drop (m+1))=true:=ZkE fun r hr=>w r (S4 hr);cases k
 all_goals
  simp only[Kd.zz,Kd.zr,Kd.ty,Kd.dl]at *
  first|rw[ZwK]|rw[ZxZ]|rw[Zxj]|rw[ZvU]
  simp only[go_sem,simprocAttr,f137,f68,f224,f221,q,e,d,C,E,F,G,H,J,L,M,N,U,s,O,S,Y,Z,c5,←e0,o,e1,e2,tk,List.replicate_one,Vv,al,A,y,B,Vk,Vu,Uh,SS,PQ,V7,VZ,V4,Vw,Int.le_refl]
  done
def Yv(a b:List UInt8)(l:List (List UInt8)):List (List UInt8):=l.map fun s=>if s=a then b else s
theorem WF(a b:List UInt8)(l:List (List UInt8)):(Yv a b l).length=l.length:=Vd ..
theorem XK{h:Za}(e:Zi n (Zk h)=true)(j:ZA b=[]):Zi n (Zk (h.set l b))=true:=by
 induction h generalizing l with
 |nil=>simpa using e
 |cons x h k =>
  have d:Zi n (ZA x++Zk h)=true:=e;rw[ZV,VA]at d;cases l with
  |zero =>
   show Zi n (ZA b++Zk h)=true;rw[j];exact d.2
  |succ l =>
   show Zi n (ZA x++Zk (h.set l b))=true;rw[ZV,d.1,k d.2];rfl
theorem ZzD{u:Nat}{C:Func}(w:u=214∧C=f214∨u=138∧C=f138){h:Za}{l n:Nat}{L:List (List UInt8)}{a b:List UInt8}{ks:List It}(hL:L.length=n)(E:n≤1000000)(y:l<h.length)(r:Zi h.length (Zk h)=true):
  ∀(q j:Nat) (jj:Int) (o:Code),YP C 0 o→n=j+q→jj=(j:Int) →
  RL K (.run u h.length (.code o::.lp o (some ([0,1,2,8,9],[])) h.length::.blk 0 h.length::ks) [(0,.own l n),(1,.str a),(2,.str b),(8,I (n:Int)),(9,I jj)] (h.set l (.rows 1 (SLs (Yv a b (L.take j)++L.drop j)) true))) =
  R K (.run u h.length ks [] (h.set l (.rows 1 (SLs (Yv a b L)) true)))
 |0,j,jj,o,k,hq,F=>by
  subst F;have d:¬(j:Int)<(n:Int):=by omega
  have e0:Yv a b (L.take j)++L.drop j=Yv a b L:=by rw[V2 (by omega),VM (by omega),Vv]
  rw[e0];have e:∀b:Blk,(h.set l b).take h.length=h.set l b:=fun b=>VM (by simp);rcases w with⟨rfl,rfl⟩|⟨rfl,rfl⟩
  all_goals
   simp only[go_sem,simprocAttr,f214,f138]at k;subst k;rw[Ze];simp only[go_sem,simprocAttr,d,e]
   done
 |q+1,j,jj,o,k,hq,F=>by
  subst F;have G:=k;have d:(j:Int)<(n:Int):=by omega
  have M:=ZQ (i:=j) (n:=n) (by omega) (by omega);obtain⟨s,hs⟩:=Zu (l:=L) (i:=j) (by omega);have A:=ZzD w hL E y r (a:=a) (b:=b) (ks:=ks) q (j+1) _ o G (by omega) rfl;have N:(Yv a b (L.take j)++L.drop j).length=n:=by rw[Vu,WF];simp;omega
  have O:(Yv a b (L.take j)).length=j:=by rw[WF];simp;omega
  have S:(Yv a b (L.take j)++L.drop j)[j]?=some s:=by rw[Vy (by omega),O,UJ,Uc,Ug];exact hs
  have U:at? (SLs (Yv a b (L.take j)++L.drop j)) (j:Int)=some [.str s]:=ZW (by rw[SLs,Vj,S];rfl);have Y:(SLs (Yv a b (L.take j)++L.drop j))[j]?=some [.str s]:=by rw[SLs,Vj,S];rfl
  have e1:∀v,(Yv a b (L.take j)++L.drop j).set j v=Yv a b (L.take j)++v::L.drop (j+1):=fun v=>by rw[Sk _ _ (by omega),O,UJ,Y8 hs];rfl
  have e2:∀v,(SLs (Yv a b (L.take j)++L.drop j)).set j [.str v]=SLs (Yv a b (L.take j)++v::L.drop (j+1)):=fun v=>by rw[←e1 v];exact(V9 (f:=fun s=>[AV.str s]) ..).symm
  have Z:∀b:Blk,(h.set l b)[l]?=some b:=fun b=>Vf y;have ss:∀b b':Blk,(h.set l b).set l b'=h.set l b':=fun b b'=>Uq ..;have lS:∀b:Blk,(h.set l b).length=h.length:=fun b=>Vq;have e:∀b:Blk,(h.set l b).take h.length=h.set l b:=fun b=>VM (by simp);have us:∀R,Zi h.length (Zk (h.set l (.rows 1 (SLs R) true)))=true:=fun R=>XK r (Zv R);by_cases B:s=a
  ·have H:Yv a b (L.take (j+1))++L.drop (j+1)=Yv a b (L.take j)++b::L.drop (j+1):=by rw[Sd,hs];simp[Yv,B]
   rw[H]at A;have J:(s==a)=true:=by simpa using B
   rcases w with⟨rfl,rfl⟩|⟨rfl,rfl⟩
   all_goals
    simp only[go_sem,simprocAttr,f214,f138]at k;subst k;rw[Ze];simp only[go_sem,simprocAttr,d,M,U,Y,e2,Z,ss,lS,e,us,y,J,N,Yh,Vk];exact A
  have H:Yv a b (L.take (j+1))++L.drop (j+1)=Yv a b (L.take j)++L.drop j:=by rw[Sd,hs,Y8 hs];simp[Yv,B]
  rw[H]at A;have J:(s==a)=false:=by simpa using B
  rcases w with⟨rfl,rfl⟩|⟨rfl,rfl⟩
  all_goals
   simp only[go_sem,simprocAttr,f214,f138]at k;subst k;rw[Ze];simp only[go_sem,simprocAttr,d,M,U,Y,Z,lS,e,us,y,J,N,Yh,Vk];exact A
theorem Zkt{e:Nat}{q:Func}(r:e=214∧q=f214∨e=138∧q=f138){h:Za}{L:List (List UInt8)}(a b:List UInt8)(j:L.length≤1000000)(s:h[l]?=some (.rows 1 (SLs L) true))(o:Zi h.length (Zk h)=true):
  R K (.call e [.own l L.length,.str a,.str b] h)=some (.tup [],h.set l (.rows 1 (SLs (Yv a b L)) true)):=by
 have d:=(Vb.1 s).1;have u:=fun(ks:List It) Bo hB=>ZzD r (ks:=ks) (a:=a) (b:=b) (L:=L) rfl j d o L.length 0 0 Bo hB (by omega) rfl;have same:h.set l (.rows 1 (SLs (Yv a b (L.take 0)++L.drop 0)) true)=h:=by
  apply UD;intro k;by_cases w:l=k
  ·subst w;rw[Vf d,s];rfl
  rw[Vc w]
 rw[same]at u;rcases r with⟨rfl,rfl⟩|⟨rfl,rfl⟩
 all_goals
  first|rw[Zux]|rw[Zvd]
  simp only[go_sem,simprocAttr,f214,f138];rw[u _ _ ?_]
  rotate_left
  ·rfl
  simp only[go_sem,simprocAttr]
  done
attribute [-go_sem] ZN
section
variable{α:Type}(lt:α→α→Bool)
def Za5:Nat→List α→List α
 |0,l=>l
 |j+1,l=>match l[j]?,l[j+1]? with
  |some a,some b=>if lt b a=true then Za5 j ((l.set j b).set (j+1) a)else l
  |_,_=>l
def Zc1:Nat→Nat→List α→List α
 |_,0,l=>l
 |i,q+1,l=>Zc1 (i+1) q (Za5 lt i l)
end
theorem Znh{α:Type}(lt:α→α→Bool):∀(j:Nat) (l:List α),(Za5 lt j l).length=l.length
 |0,l=>rfl
 |j+1,l=>by
  unfold Za5;split
  ·split
   ·rw[Znh lt j];simp
   rfl
  rfl
theorem Zn3{α:Type}(lt:α→α→Bool){P:α→Prop}:∀(j:Nat) (l:List α),(∀a∈l,P a)→∀a∈Za5 lt j l,P a
 |0,l,h=>h
 |j+1,l,h=>by
  unfold Za5;split
  ·rename_i x y e k;split
   ·refine Zn3 lt j _ fun a d=>?_;rcases VL d with d|rfl
    ·rcases VL d with d|rfl
     ·exact h a d
     exact h _ (Ve k)
    exact h _ (Ve e)
   exact h
  exact h
inductive Ks
 |T|F|I|TV|FV|IV
def Ks.own:Ks→Bool
 |.T|.F|.I=>true
 |_=>false
def Ks.xx(l n m:Nat):Ks→AV
 |.T|.F|.I=>.own l n
 |_=>.vw l n 0 m
noncomputable def Ks.zz:Ks→Nat
 |.T=>5
 |.F| .I=>3
 |.TV=>5
 |.FV| .IV=>3
noncomputable def Ks.ins:Ks→FuncId
 |.T=>241
 |.F=>244
 |.I=>246
 |.TV=>241
 |.FV=>244
 |.IV=>246
noncomputable def Ks.insC:Ks→Func
 |.T=>f241
 |.F=>f244
 |.I=>f246
 |.TV=>f241
 |.FV=>f244
 |.IV=>f246
noncomputable def Ks.st:Ks→FuncId
 |.T=>140
 |.F=>142
 |.I=>143
 |.TV=>140
 |.FV=>142
 |.IV=>143
noncomputable def Ks.sf:Ks→FuncId
 |.T=>74
 |.F=>77
 |.I=>79
 |.TV=>74
 |.FV=>77
 |.IV=>79
theorem ZCg(k:Ks){h:Za}{l n m:Nat}{f:AV}{D:List (List AV)}{cv:List AV→List AV→Int}{P:List AV→Prop}{b i:Int}{ks:List It}(d:l<h.length)(q:Zi h.length (locs f)=true)(hm:m≤1000)(hD:k.own=true→D=[])
  (hz:∀row,P row→row.length=k.zz∧singles row=true)
  (L:∀(B:Blk) (t:Za) (row:List AV),P row→ZE (h.set l B++t) row=some row∨ZE (h.set l B++t) row=none)
  (M:∀Q,(∀row∈Q,P row)→Zi h.length (Zk (h.set l (.rows k.zz (Q++D) true)))=true)
  (hq:∀Q (ra rb:List AV),(∀row∈Q,P row)→P ra→P rb→chg (h.set l (.rows k.zz (Q++D) true)) (h.set l (.rows k.zz (Q++D) true)) (ZN (h.set l (.rows k.zz (Q++D) true)) [.agg ra,.agg rb] f)=[])
  (hc:∀Q (ra rb:List AV),(∀row∈Q,P row)→P ra→P rb→ZU K.shut.nlA (R K) (h.set l (.rows k.zz (Q++D) true)) [.agg ra,.agg rb] f=some (I (cv ra rb),h.set l (.rows k.zz (Q++D) true))) :
  ∀(j:Nat) (Q:List (List AV)) (jj:Int) (F:Code),YP k.insC 2 F→jj=(j:Int)→j<m→Q.length=m→(Q++D).length=n→(∀row∈Q,P row) →
  RL K (.run k.ins h.length (.code F::.lp F (some ([0,1,2,3,8,9],[])) h.length::.blk 2 h.length::ks) [(0,k.xx l n m),(1,I 0),(2,I b),(3,f),(8,I i),(9,I jj)] (h.set l (.rows k.zz (Q++D) true))) =
  R K (.run k.ins h.length ks [(0,k.xx l n m),(1,I 0),(2,I b),(3,f),(8,I i)] (h.set l (.rows k.zz (Za5 (fun x y=>decide (cv x y<0)) j Q++D) true)))
 |0,Q,jj,F,w,hj,a1,hR,s,G=>by
  subst hj;have e:∀B:Blk,(h.set l B).take h.length=h.set l B:=fun B=>VM (by simp);cases k
  all_goals
   simp only[Ks.zz,Ks.xx,Ks.ins,Ks.insC,Ks.st,Ks.sf]at *;simp -implicitDefEqProofs only[go_sem,simprocAttr,f241,f244,f246]at w;subst w;rw[Ze];simp -implicitDefEqProofs only[go_sem,simprocAttr,e,Za5]
   done
 |j+1,Q,jj,F,w,hj,a1,hR,s,G=>by
  subst hj;have a2:=w;obtain⟨x,A⟩:=Zu (l:=Q) (i:=j) (by omega);obtain⟨y,N⟩:=Zu (l:=Q) (i:=j+1) (by omega);have O:=G x (Ve A);have S:=G y (Ve N);obtain⟨U,Y⟩:=hz x O;obtain⟨Z,sy⟩:=hz y S;have h7:Zx .i64 (((j+1:Nat):Int)-1)=(j:Int):=by rw[Zq (by omega) (by omega)];omega
  have H:(Q++D)[j]?=some x:=by rw[Vh (by omega)];exact A
  have J:(Q++D)[j+1]?=some y:=by rw[Vh (by omega)];exact N
  have bx:=ZW A;have bY:=ZW N;have mn:m≤n:=by rw[←s,←hR];simp
  have tq:(Q++D).take m=Q:=by rw[←hR];exact Pl
  have ax:=ZW H;have ay:=ZW J;have d0:(0:Int)<((j+1:Nat):Int):=by omega
  have tx:x.take k.zz=x:=VM (by omega);have ty:y.take k.zz=y:=VM (by omega);have gs:∀B:Blk,(h.set l B)[l]?=some B:=fun B=>Vf d;have ss:∀B B':Blk,(h.set l B).set l B'=h.set l B':=fun B B'=>Uq ..;have lS:∀B:Blk,(h.set l B).length=h.length:=fun B=>Vq;have e:∀B:Blk,(h.set l B).take h.length=h.set l B:=fun B=>VM (by simp);have cc:=hc Q y x G S O;have qq:=hq Q y x G S O;have pu:∀(B:Blk) (row:List AV),P row→ZE (h.set l B) row=some row∨ZE (h.set l B) row=none:=fun B row C=>by
   have:=L B [] row C
   rwa [Vv]at this
  by_cases o:cv y x<0
  ·have dk:decide (cv y x<0)=true:=by simpa using o
   have e0:Za5 (fun x y=>decide (cv x y<0)) (j+1) Q=Za5 (fun x y=>decide (cv x y<0)) j ((Q.set j y).set (j+1) x):=by rw[Za5,A,N];simp only[dk,V7]
   have e1:(Q++D).set (j+1) x=Q.set (j+1) x++D:=S3 _ _ (by omega);have e2:(Q.set (j+1) x++D).set j y=(Q.set j y).set (j+1) x++D:=by rw[S3 _ _ (by simp;omega),Pr _ _ (by omega)]
   have g3:(Q.set (j+1) x++D)[j]?=some x:=by rw[Vh (by simp;omega),Vc (by omega)];exact A
   have a3:=ZW g3;have l3:(Q.set (j+1) x++D).length=n:=by rw[←s];simp
   have b3:at? (Q.set (j+1) x) (j:Int)=some x:=ZW (by rw[Vc (by omega)];exact A);have u:(Q.set (j+1) x++D).take m=Q.set (j+1) x:=by rw[Sn (by simp;omega)];exact VM (by simp;omega)
   have dx:x.drop k.zz=[]:=V2 (by omega);have dy:y.drop k.zz=[]:=V2 (by omega);have a0:∀row∈(Q.set j y).set (j+1) x,P row:=fun row C=>by
    rcases VL C with C|rfl
    ·rcases VL C with C|rfl
     ·exact G _ C
     exact S
    exact O
   have c1:=M _ a0;have ih:=ZCg k (n:=n) (b:=b) (i:=i) (ks:=ks) d q hm hD hz L M hq hc j ((Q.set j y).set (j+1) x) _ F a2 rfl (by omega) (by simpa using hR) (by rw[←s];simp) a0;rw[e0];have E:=pu (.rows k.zz (Q++D) true) x O;have r:=pu (.rows k.zz (Q.set (j+1) x++D) true) y S;cases k
   all_goals
    simp only[Ks.zz,Ks.xx,Ks.ins,Ks.insC,Ks.st,Ks.sf]at *;simp -implicitDefEqProofs only[go_sem,simprocAttr,f241,f244,f246]at w;subst w;rw[Ze];rcases E with E|E
    ·rcases r with r|r
     ·simp -implicitDefEqProofs only[go_sem,simprocAttr,d0,ZB,Zf,h7,gs,ss,lS,e,H,J,ax,ay,tx,ty,U,Z,Y,sy,cc,qq,d,q,s,bx,bY,mn,tq,V4,Vk,o,e1,e2,g3,a3,b3,u,l3,dx,dy,E,r,c1,Vv];exact ih
     simp -implicitDefEqProofs only[go_sem,simprocAttr,d0,ZB,Zf,h7,gs,ss,lS,e,H,J,ax,ay,tx,ty,U,Z,Y,sy,cc,qq,d,q,s,bx,bY,mn,tq,V4,Vk,o,e1,e2,g3,a3,b3,u,l3,dx,dy,E,r,c1,Vv];exact ih
    rcases r with r|r
    ·simp -implicitDefEqProofs only[go_sem,simprocAttr,d0,ZB,Zf,h7,gs,ss,lS,e,H,J,ax,ay,tx,ty,U,Z,Y,sy,cc,qq,d,q,s,bx,bY,mn,tq,V4,Vk,o,e1,e2,g3,a3,b3,u,l3,dx,dy,E,r,c1,Vv];exact ih
    simp -implicitDefEqProofs only[go_sem,simprocAttr,d0,ZB,Zf,h7,gs,ss,lS,e,H,J,ax,ay,tx,ty,U,Z,Y,sy,cc,qq,d,q,s,bx,bY,mn,tq,V4,Vk,o,e1,e2,g3,a3,b3,u,l3,dx,dy,E,r,c1,Vv];exact ih
  have dk:decide (cv y x<0)=false:=by simpa using o
  have e0:Za5 (fun x y=>decide (cv x y<0)) (j+1) Q=Q:=by rw[Za5,A,N];simp only[dk];rfl
  rw[e0];cases k
  all_goals
   simp only[Ks.zz,Ks.xx,Ks.ins,Ks.insC,Ks.st,Ks.sf]at *;simp -implicitDefEqProofs only[go_sem,simprocAttr,f241,f244,f246]at w;subst w;rw[Ze];simp -implicitDefEqProofs only[go_sem,simprocAttr,d0,ZB,Zf,h7,gs,ss,lS,e,H,J,ax,ay,tx,ty,U,Z,Y,sy,cc,qq,d,q,s,bx,bY,mn,tq,V4,Vk,o]
   done
theorem ZCY(k:Ks){h:Za}{l n m:Nat}{f:AV}{D:List (List AV)}{cv:List AV→List AV→Int}{P:List AV→Prop}{ks:List It}(r:l<h.length)(s:Zi h.length (locs f)=true)(M:m≤1000)(N:k.own=true→D=[])
  (O:∀row,P row→row.length=k.zz∧singles row=true)
  (w:∀(B:Blk) (t:Za) (row:List AV),P row→ZE (h.set l B++t) row=some row∨ZE (h.set l B++t) row=none)
  (u:∀Q,(∀row∈Q,P row)→Zi h.length (Zk (h.set l (.rows k.zz (Q++D) true)))=true)
  (S:∀Q (ra rb:List AV),(∀row∈Q,P row)→P ra→P rb→chg (h.set l (.rows k.zz (Q++D) true)) (h.set l (.rows k.zz (Q++D) true)) (ZN (h.set l (.rows k.zz (Q++D) true)) [.agg ra,.agg rb] f)=[])
  (U:∀Q (ra rb:List AV),(∀row∈Q,P row)→P ra→P rb→ZU K.shut.nlA (R K) (h.set l (.rows k.zz (Q++D) true)) [.agg ra,.agg rb] f=some (I (cv ra rb),h.set l (.rows k.zz (Q++D) true))) :
  ∀(q i:Nat) (Q:List (List AV)) (C:Int) (j:Code),YP k.insC 0 j→C=(i:Int)→m=i+q→Q.length=m→(Q++D).length=n→(∀row∈Q,P row) →
  RL K (.run k.ins h.length (.code j::.lp j (some ([0,1,2,3,8],[])) h.length::.blk 0 h.length::ks) [(0,k.xx l n m),(1,I 0),(2,I (m:Int)),(3,f),(8,I C)] (h.set l (.rows k.zz (Q++D) true))) =
  R K (.run k.ins h.length ks [] (h.set l (.rows k.zz (Zc1 (fun x y=>decide (cv x y<0)) i q Q++D) true)))
 |0,i,Q,C,j,o,hi,E,F,G,H=>by
  subst hi;have d:¬(i:Int)<(m:Int):=by omega
  have e:∀B:Blk,(h.set l B).take h.length=h.set l B:=fun B=>VM (by simp);cases k
  all_goals
   simp only[Ks.zz,Ks.xx,Ks.ins,Ks.insC,Ks.st,Ks.sf]at *;simp -implicitDefEqProofs only[go_sem,simprocAttr,f241,f244,f246]at o;subst o;rw[Ze];simp -implicitDefEqProofs only[go_sem,simprocAttr,d,e,Zc1]
   done
 |q+1,i,Q,C,j,o,hi,E,F,G,H=>by
  subst hi;have J:=o;have d:(i:Int)<(m:Int):=by omega
  have Y:=ZQ (i:=i) (n:=m) (by omega) (by omega);have e:∀B:Blk,(h.set l B).take h.length=h.set l B:=fun B=>VM (by simp);have A:=Zn3 (fun x y=>decide (cv x y<0)) (P:=P) i Q H;have Z:=Znh (fun x y=>decide (cv x y<0)) i Q;have ih:=ZCY k (n:=n) (ks:=ks) r s M N O w u S U q (i+1) (Za5 (fun x y=>decide (cv x y<0)) i Q) _ j J rfl (by omega) (by rw[Z];exact F) (by rw[←G];simp[Z]) A;have L:=fun(ks:List It) j o=>ZCg k (n:=n) (b:=(m:Int)) (i:=(i:Int)) (ks:=ks) r s M N O w u S U i Q (i:Int) j o rfl (by omega) F G H;have c1:=u _ A;cases k
  all_goals
   simp only[Ks.zz,Ks.xx,Ks.ins,Ks.insC,Ks.st,Ks.sf]at *;simp -implicitDefEqProofs only[go_sem,simprocAttr,f241,f244,f246]at o;subst o;rw[Ze];simp -implicitDefEqProofs only[go_sem,simprocAttr,d,Y,e];rw[L _ _ ?_]
   rotate_left
   ·rfl
   simp -implicitDefEqProofs only[go_sem,simprocAttr,d,Y,e,r,s,c1];exact ih
theorem ZCM(k:Ks){h:Za}{m:Nat}(d:l<h.length)(j:Zi h.length (locs f)=true)(w:m≤1000)(A:k.own=true→D=[])
  (C:∀row,P row→row.length=k.zz∧singles row=true)
  (o:∀(B:Blk) (t:Za) (row:List AV),P row→ZE (h.set l B++t) row=some row∨ZE (h.set l B++t) row=none)
  (q:∀Q,(∀row∈Q,P row)→Zi h.length (Zk (h.set l (.rows k.zz (Q++D) true)))=true)
  (E:∀Q (ra rb:List AV),(∀row∈Q,P row)→P ra→P rb→chg (h.set l (.rows k.zz (Q++D) true)) (h.set l (.rows k.zz (Q++D) true)) (ZN (h.set l (.rows k.zz (Q++D) true)) [.agg ra,.agg rb] f)=[])
  (F:∀Q (ra rb:List AV),(∀row∈Q,P row)→P ra→P rb→ZU K.shut.nlA (R K) (h.set l (.rows k.zz (Q++D) true)) [.agg ra,.agg rb] f=some (I (cv ra rb),h.set l (.rows k.zz (Q++D) true)))   (G:h[l]?=some (.rows k.zz (Q++D) true)) (r:Q.length=m) (H:(Q++D).length=n) (J:∀row∈Q,P row) :
  R K (.call k.ins [k.xx l n m,I 0,I (m:Int),f] h)=some (.tup [],h.set l (.rows k.zz (Zc1 (fun x y=>decide (cv x y<0)) 1 (m-1) Q++D) true)):=by
 have same:h.set l (.rows k.zz (Q++D) true)=h:=by
  apply UD;intro k;by_cases s:l=k
  ·subst s;rw[Vf d,G]
  rw[Vc s]
 have u:=fun(ks:List It) Bo hB (e:0<m)=>ZCY k (n:=n) (ks:=ks) d j w A C o q E F (m-1) 1 Q 1 Bo hB rfl (by omega) r H J;rw[same]at u;cases k
 all_goals
  simp only[Ks.zz,Ks.xx,Ks.ins,Ks.insC,Ks.st,Ks.sf]at *
  first|rw[ZvE]|rw[Zvn]|rw[Zvc]
  rcases Ut m with e|e
  ·subst e;have:Q=[]:=VS.1 r;subst this;rw[show Zc1 (fun x y=>decide (cv x y<0)) 1 (0-1) ([]:List (List AV))=[]from rfl,same];simp only[go_sem,simprocAttr,f241,f244,f246];rw[Ze];simp only[go_sem,simprocAttr]
   done
  simp only[go_sem,simprocAttr,f241,f244,f246];rw[u _ _ ?_ e]
  rotate_left
  ·rfl
  simp only[go_sem,simprocAttr]
  done
theorem ZD3(k:Ks){h:Za}{m:Nat}(e:l<h.length)(o:Zi h.length (locs f)=true)(O:m<20)(G:k.own=true→D=[])
  (H:∀row,P row→row.length=k.zz∧singles row=true)
  (w:∀(B:Blk) (t:Za) (row:List AV),P row→ZE (h.set l B++t) row=some row∨ZE (h.set l B++t) row=none)
  (q:∀Q,(∀row∈Q,P row)→Zi h.length (Zk (h.set l (.rows k.zz (Q++D) true)))=true)
  (J:∀Q (ra rb:List AV),(∀row∈Q,P row)→P ra→P rb→chg (h.set l (.rows k.zz (Q++D) true)) (h.set l (.rows k.zz (Q++D) true)) (ZN (h.set l (.rows k.zz (Q++D) true)) [.agg ra,.agg rb] f)=[])
  (L:∀Q (ra rb:List AV),(∀row∈Q,P row)→P ra→P rb→ZU K.shut.nlA (R K) (h.set l (.rows k.zz (Q++D) true)) [.agg ra,.agg rb] f=some (I (cv ra rb),h.set l (.rows k.zz (Q++D) true)))   (r:h[l]?=some (.rows k.zz (Q++D) true)) (M:Q.length=m) (N:(Q++D).length=n) (E:∀row∈Q,P row) :
  R K (.call k.st [k.xx l n m,I (m:Int),f] h)=some (.tup [],h.set l (.rows k.zz (Zc1 (fun x y=>decide (cv x y<0)) 1 (m-1) Q++D) true)):=by
 have A:=ZCM k e o (by omega) G H w q J L r M N E;have d:¬(20:Int)≤(m:Int):=by omega
 have C:¬(20:Int)<(m:Int):=by omega
 have j:Zi h.length (Zk h)=true:=by
  have:=q Q E
  rwa [show h.set l (.rows k.zz (Q++D) true)=h from by
   apply UD;intro k;by_cases F:l=k
   ·subst F;rw[Vf e,r]
   rw[Vc F]]at this
 have s:h.take h.length=h:=ST;have u:∀B:Blk,(h.set l B).take h.length=h.set l B:=fun B=>VM (by simp);cases k
 all_goals
  simp only[Ks.zz,Ks.xx,Ks.ins,Ks.insC,Ks.st,Ks.sf]at *
  first|rw[ZuP]|rw[ZwJ]|rw[ZwP]
  simp only[go_sem,simprocAttr,f140,f142,f143,r,d,C,A];rw[Ze];simp only[go_sem,simprocAttr,r,d,C,A,j,e,o,s,u];rw[Ze];simp only[go_sem,simprocAttr,r,d,C,A,j,e,o,s,u]
  done
theorem Zsp(k:Ks){h:Za}{m:Nat}(d:l<h.length)(j:Zi h.length (locs f)=true)(A:m<20)(s:k.own=true→D=[])
  (C:∀row,P row→row.length=k.zz∧singles row=true)
  (o:∀(B:Blk) (t:Za) (row:List AV),P row→ZE (h.set l B++t) row=some row∨ZE (h.set l B++t) row=none)
  (q:∀Q,(∀row∈Q,P row)→Zi h.length (Zk (h.set l (.rows k.zz (Q++D) true)))=true)
  (E:∀Q (ra rb:List AV),(∀row∈Q,P row)→P ra→P rb→chg (h.set l (.rows k.zz (Q++D) true)) (h.set l (.rows k.zz (Q++D) true)) (ZN (h.set l (.rows k.zz (Q++D) true)) [.agg ra,.agg rb] f)=[])
  (F:∀Q (ra rb:List AV),(∀row∈Q,P row)→P ra→P rb→ZU K.shut.nlA (R K) (h.set l (.rows k.zz (Q++D) true)) [.agg ra,.agg rb] f=some (I (cv ra rb),h.set l (.rows k.zz (Q++D) true)))   (u:h[l]?=some (.rows k.zz (Q++D) true)) (w:Q.length=m) (r:(Q++D).length=n) (G:∀row∈Q,P row) :
  R K (.call k.sf [k.xx l n m,f] h)=some (.tup [],h.set l (.rows k.zz (Zc1 (fun x y=>decide (cv x y<0)) 1 (m-1) Q++D) true)):=by
 have H:=ZD3 k d j A s C o q E F u w r G;have e:k.own=true→n=m:=fun h=>by rw[←r,s h,Vv,w]
 cases k
 all_goals
  first|(obtain rfl:=e rfl)|skip
  simp only[Ks.zz,Ks.xx,Ks.ins,Ks.insC,Ks.st,Ks.sf]at *
  first|rw[Zzj]|rw[ZxW]|rw[ZxX]
  simp only[go_sem,simprocAttr,f74,f77,f79,H,u,r]
  done
attribute [go_sem] ZN
def Zm0(n:List UInt8):List AV→Bool
 |.str s::_=>s==n
 |_=>false
theorem ZtL(c:Chg)(x:Col):R K (.call 213 [Jy x,.rptr (Zb c) 0] [])=some (.bool (x.nm==c.nm),[]):=by rw[Zud];simp only[go_sem,simprocAttr,f213,Zh,Zb]
theorem ZAT(c:Chg)(x:Col):ZU nlA (R K) [] [Jy x] (.fn 213 [.rptr (Zb c) 0])=some (.bool (x.nm==c.nm),[]):=by have d:=ZtL c x;simp only[Jy,Zh]at d ⊢;simp only[go_sem,simprocAttr,d]
theorem ZAG{h:Za}(c:Chg)(x:Col)(j:h[p]?=some (.cells (Zb c))):ZU nlA (R K) h [Jy x] (.fn 213 [.ptr p 0])=some (.bool (x.nm==c.nm),h):=by
 have d:=ZtL c x;have e:Zy 8 h [.agg (Zh x),.ptr p 0]=some [.agg (Zh x),.rptr (Zb c) 0]:=by have k:Yd (Zb c) (Zy 7 h (Zb c))=some (Zb c):=rfl;have o:Zs (Zy 7 h) h (Zh x)=some (Zh x):=rfl;show Zs (Zy 7 h) h _=_;simp only[Zs,ZH,o,j,k]
 simp only[Jy,Zh]at d e ⊢;simp only[go_sem,simprocAttr,d,e]
 done
theorem Shut.reachq{h:Za}(s:Shut h)(t:Za){ls:List Nat}(j:∀l∈ls,l<h.length)(n:Nat):chg (h++t) (h++t) (Y7 (h++t) n ls [])=[] :=
 Zbm fun l d=>by
  have:=ZbC (h:=h++t) (P:=fun l=>l<h.length) (fun l b k e x o=>by rw[Vh k]at e;exact Zt.1 s.cl x (Y5 e x o)) n ls [] j (by simp) l d
  rw[Vh this];exact s.eq l this
theorem Shut.add{h:Za}(s:Shut h)(e:ZA b=[])(j:eqB (some b) (some b)=true):Shut (h++[b]):=by
 refine⟨?_,fun l k=>?_⟩
 ·rw[ZR,ZV,show Zk [b]=ZA b++[]from rfl,e];exact VX.2 ⟨Yf s.cl (by simp),rfl⟩
 by_cases d:l<h.length
 ·rw[Vh d];exact s.eq l d
 have:l=h.length:=by simp at k;omega
 subst this;rw[gA0 rfl];exact j
theorem ZbO(c:Chg):eqB (some (.cells (Zb c))) (some (.cells (Zb c)))=true:=by simp only[eqB];exact ZqA c
theorem Zdf(c:Chg):ZA (.cells (Zb c))=[]:=rfl
section
variable{h:Za}{kc lt i:Nat}{X:List LT}{T:LT}{c:Chg}
def Zkj(t:Tbl)(n:List UInt8):Bool:=t.key.contains n||(inF t n||inI t n)
def ZfH(n:List UInt8)(l:List Col):List Col:=l.filter fun x=>!(x.nm==n)
theorem Zbq:∀{rs:List (List AV)},(∀row∈rs,Zg row=[])→Zz rs=[]
 |[],_=>rfl
 |r::rs,h=>by show Zg r++Zz rs=[];rw[h r VV,Zbq fun x d=>h x (VD _ d)];rfl
theorem Zds{n:List UInt8}{l:List (List UInt8)}{j:Nat}(h:ixN n l 0=(j:Int)):l[j]?=some n∧n∉l.take j:=by have d:=(Zug n l 0 j h).2;rw[V4]at d;refine⟨d,fun e=>?_⟩;have:=(Zju n l 0 j (Ve d)).2 e;omega
theorem ZsG(k:HT h T)(o:Shut h)(q:FitT T.tbl){j:Nat}(s:ixN c.nm (T.cols.map (·.nm)) 0=(j:Int))(u:T.cols[j]?=some col):
  R K (.call 212 [.own T.lc T.cols.length,.fn 213 [.ptr h.length 0]] (h++[.cells (Zb c)])) =
   some (.vw T.lc T.cols.length 0 (ZfH c.nm T.cols).length,h.set T.lc (.rows 6 ((ZfH c.nm T.cols).map Zh++List.replicate (T.cols.length-(ZfH c.nm T.cols).length) [.str [],I 0,.bool false,I 0,I 0,.str []]) true)++[.cells (Zb c)]):=by
 have A:=(Vb.1 k.c).1;obtain⟨w,y⟩:=Zds s;have B:=o.add (Zdf c) (ZbO c);have C:col.nm=c.nm:=by rw[Vj,u]at w;simpa using w
 have ix:=Ze1 (.fn 213 [.rptr (Zb c) 0]) [] c.nm rfl T.cols q.cols (ZAT c);rw[s]at ix;have E:∀(b:Blk) (t:Za),((h++[Blk.cells (Zb c)]).set T.lc b++t)[h.length]?=some (.cells (Zb c)):=fun b t=>by rw[Vh (by simp),Vc (by omega),gA0 rfl];rfl
 have d:∀row∈T.cols.map Zh,∃x,row=Zh x:=fun row d=>by obtain⟨x,_,e⟩:=VE.1 d;exact⟨x,e.symm⟩
 have key:=Zzs .kC (h:=h++[.cells (Zb c)]) (lc:=T.lc) (n:=T.cols.length) (f:=.fn 213 [.ptr h.length 0]) (rs:=T.cols.map Zh) (pb:=Zm0 c.nm) (pure:=[.rows (T.cols.map Zh),.fn 213 [.rptr (Zb c) 0]]) (m:=j) (row0:=Zh col)
  (gL k.c _) (by simp) q.cols (by simp[locs,Zg,Zi]) (fun row h=>by obtain⟨x,rfl⟩:=d row h;exact⟨rfl,rfl⟩)
  (fun b t row h=>by obtain⟨x,rfl⟩:=d row h;exact .inl rfl)
  (fun R' F=>XK B.cl (Zbq fun row h=>by obtain⟨x,rfl⟩:=d row (F row h);rfl))
  (fun b t row h=>by obtain⟨x,rfl⟩:=d row h;exact ZAG c x (E b t))
  (by
   have G:=(Lst.own (h:=h++[.cells (Zb c)]) T.lc 6 T.cols.length _ true (gL k.c _) (by simp)).snap (f:=Zy 7 (h++[.cells (Zb c)])) (Zkm _ _);have N:Yd (Zb c) (Zy 6 (h++[.cells (Zb c)]) (Zb c))=some (Zb c):=rfl;have H:Yd (Zb c) (Zy 7 (h++[.cells (Zb c)]) (Zb c))=some (Zb c):=rfl;have g:(h++[.cells (Zb c)])[h.length]?=some (.cells (Zb c)):=gA0 rfl _;have J:ZH (Zy 7 (h++[.cells (Zb c)])) (h++[.cells (Zb c)]) (.fn 213 [.ptr h.length 0])=some (.fn 213 [.rptr (Zb c) 0]):=by simp only[ZH,Zs,g,H]
   show Zs (Zy 7 (h++[.cells (Zb c)])) (h++[.cells (Zb c)]) _=_;simp only[Zs,G,J])
  ix (by rw[Vj,u];rfl) (by show(col.nm==c.nm)=true;simpa using C)
  (fun row h=>by rw[←UV]at h;obtain⟨x,L,rfl⟩:=VE.1 h;show(x.nm==c.nm)=false;rw[VR];intro e;rw[←UV]at y;exact y (VE.2 ⟨x,L,e⟩))
 simp only[Kd.zz,Kd.fn,Kd.ix,Kd.zr]at key;have M:(T.cols.map Zh).filter (fun r=>!Zm0 c.nm r)=(ZfH c.nm T.cols).map Zh:=by rw[SC];rfl
 rw[M,Vd,sL k.c]at key;exact key
theorem Zf7(hs:SchAt h lt X)(r:Shut h)(s:h[kc]?=some (.cells (kcC lt X.length i c)))(hi:X[i]?=some T)(w:FitT T.tbl)(d:c.kd=5){j:Nat}(M:ixN c.nm (T.cols.map (·.nm)) 0=(j:Int))(N:T.cols[j]?=some col):
  R K (.call 121 [.ptr kc 0] h)=(if Zkj T.tbl c.nm=true then some (I 11,h++[.cells (Zb c)])else
   some (I 0,(h.set T.lc (.rows 6 ((ZfH c.nm T.cols).map Zh++List.replicate (T.cols.length-(ZfH c.nm T.cols).length) [.str [],I 0,.bool false,I 0,I 0,.str []]) true)).set lt (.rows 5 ((X.map Zn).set i [.str T.nm,.vw T.lc T.cols.length 0 (ZfH c.nm T.cols).length,.own T.lk T.key.length,.own T.lf T.fs.length,.own T.li T.is.length]) true)++[.cells (Zb c)])):=by
 have G:=(Vb.1 s).1;have o:=hs.ht T (Ve hi);have H:=(Vb.1 o.c).1;have q:h.length=h.length:=rfl;have B:(kc==h.length)=false:=by rw[VR];omega
 have y:(X.map Zn)[i]?=some (Zn T):=by rw[Vj,hi];rfl
 simp only[Zn]at y;have C:∀t,R K (.call 209 [.ptr kc 0] (h++t))=some (.optr T.lc T.cols.length j 0,h++t):=fun t=>QF (hs.app t) (gL s t) hi w.cols rfl _ (.inr ⟨j,col,M,N,rfl⟩);have u:=YR c.nm T.key w.key;have E:=fun t=>ZaD (.own T.lk 1 T.key.length _ true ((o.app t).k) (Yh _)) [.str c.nm] [.str c.nm] rfl;have J:=fun t=>(hs.app t).snapK (gL s t) hi [.str c.nm] [.str c.nm] rfl;have A:=ZgF (X.map LT.tbl) c T.tbl w c.nm;have F:=ZrN (X.map LT.tbl) c T.tbl w c.nm;have Z:=fun t=>r.reachq t (ls:=[T.lk]) (by simpa using(Vb.1 o.k).1) 100;have q2:=fun t=>r.reachq t (ls:=[kc]) (by simpa using G) 100;rw[Zbt];have dl:=ZsG (c:=c) o r w M N;simp only[Zb,d]at dl;have L:lt≠T.lc:=fun e=>(Vx.1 hs.ap).1 (V1.2 ⟨T,Ve hi,e▸VV⟩);have O:∀b:Blk,(h.set T.lc b)[lt]?=some (.rows 5 (X.map Zn) true):=fun b=>by rw[Vc (fun e=>L e.symm)];exact hs.tb
 have gs:∀b:Blk,(h.set T.lc b)[T.lc]?=some b:=fun b=>Vf H;have lS:∀b:Blk,(h.set T.lc b).length=h.length:=fun b=>Vq;have us:Zkj T.tbl c.nm=(T.key.contains c.nm||(inF T.tbl c.nm||inI T.tbl c.nm)):=rfl;rw[us];cases S:T.key.contains c.nm
 ·rw[S]at u;cases U:inF T.tbl c.nm
  ·rw[U]at A;cases Y:inI T.tbl c.nm
   ·rw[Y]at F;rw[Vm (by simp)];simp only[go_sem,simprocAttr,f121,d,gL s,gL hs.tb,y,C,E,J,u,A,F,gL o.c,gL o.k,Zb,dl,gL (O _),sL (O _),ZB,Zf,Vd,gA0 q,sA0 q,Ub,B,VN,VW,Vo,Vl,Vi]
    done
   rw[Y]at F;rw[Vr (by simp)];simp only[go_sem,simprocAttr,f121,d,gL s,gL hs.tb,y,C,E,J,u,A,F,gL o.k,Zb,ZB,Zf,Vd,gA0 q,sA0 q,Ub,B,VN,VW,Vo,Vl,Vi]
  rw[U]at A;rw[Vr (by simp)];simp only[go_sem,simprocAttr,f121,d,gL s,gL hs.tb,y,C,E,J,u,A,gL o.k,Zb,ZB,Zf,Vd,gA0 q,sA0 q,Ub,B,VN,VW,Vo,Vl,Vi]
 rw[S]at u;rw[Vr (by simp)];simp only[go_sem,simprocAttr,f121,d,gL s,gL hs.tb,y,C,E,u,gL o.k,Zb,ZB,Zf,Vd,gA0 q,sA0 q,Ub,B,VN,VW,Vo,Vl,Vi]
end
attribute [go_sem] Zy Zs ZH Z1 ZL Yd Z0
theorem ZxB(c:UInt8):chB [95] c=!((decide ((c.toNat:Int)<97)||decide ((c.toNat:Int)>122))&&(decide ((c.toNat:Int)<48)||decide ((c.toNat:Int)>57))&&((c.toNat:Int) != 95)):=by
 have e:([95]:List UInt8).contains c=((c.toNat:Int)==95):=by
  rw[UE];simp only[SX,Ss,Ps,Up];constructor
  ·rintro rfl;rfl
  intro h;apply UInt8.toNat_inj.1;show c.toNat=95;omega
 unfold chB;rw[e,bne];rw[UE];cases((c.toNat:Int)==95)<;>simp<;>omega
theorem ZqV(s:List UInt8)(hs:s.length≤100000000)(ks:List It):∀(q j:Nat) (i:Int) (e:Code),YP f206 0 e→i=(j:Int)→s.length=j+q →
  RL K (.run 206 0 (.code e::.lp e (some ([0,23,24],[])) 0::.blk 0 0::ks) [(0,.str s),(23,I (s.length:Int)),(24,I i)] []) =
  if(s.drop j).all (chB [95])=true then R K (.run 206 0 ks [] [])else some (.bool false,[])
 |0,j,i,e,k,hi,w=>by
  subst hi;have d:¬(j:Int)<(s.length:Int):=by omega
  rw[V2 (by omega),List.all_nil,Vr rfl];simp only[go_sem,simprocAttr,f206]at k;subst k;rw[Ze];simp only[go_sem,simprocAttr,d]
  done
 |q+1,j,i,e,k,hi,w=>by
  subst hi;have o:=k;have d:(j:Int)<(s.length:Int):=by omega
  have y:Zx .i64 ((j:Int)+1)=((j+1:Nat):Int):=by rw[Zq (by omega) (by omega)];omega
  obtain⟨b,r⟩:∃b,s[j]?=some b:=⟨s[j]'(by omega),VB _⟩;have A:=WO r;have B:=ZqV s hs ks q (j+1) _ e o rfl (by omega);rw[Y8 r,List.all_cons,ZxB];cases C:decide ((b.toNat:Int)<97)<;>cases h2:decide ((b.toNat:Int)>122)<;>cases h3:decide ((b.toNat:Int)<48)<;>cases u:decide ((b.toNat:Int)>57)<;>cases E:((b.toNat:Int) != 95)
  all_goals simp only[gt_iff_lt]at h2 u
  all_goals simp only[SI,Ps,UC,U6,UF,Pm,U1,VN]
  all_goals
   simp only[go_sem,simprocAttr,f206]at k;subst k;rw[Ze];simp only[go_sem,simprocAttr,d,y,A,C,h2,h3,u,E]
  all_goals (first|exact B|rfl|skip)
  done
theorem ZfM(s:List UInt8)(hs:s.length≤100000000):R K (.call 206 [.str s] [])=some (.bool (Xw s),[]):=by
 have y:=fun ks B C=>ZqV s hs ks s.length 0 0 B C rfl (by omega);simp only[Ui]at y;cases s with
 |nil =>
  have j:(([]:List UInt8)==[])=true:=rfl;rw[ZcL];simp only[go_sem,simprocAttr,f206,j];rfl
 |cons c r =>
  have o:at? (c::r) (0:Int)=some c:=rfl;have e:Xw (c::r)=((c::r).all (chB [95])&&decide ((c::r).length≤40)&&(decide (97≤c.toNat)&&decide (c.toNat≤122))):=rfl;have j:((c::r:List UInt8)==[])=false:=rfl;rw[e];by_cases A:40<(c::r).length
  ·have k:(40:Int)<((c::r).length:Int):=by omega
   have q:decide ((c::r).length≤40)=false:=by simp;simp at A;omega
   rw[q];simp only[Pm,UF];generalize d:(c::r).length=n at *;rw[ZcL];simp only[go_sem,simprocAttr,f206,k,j,d]
   done
  have k:¬(40:Int)<((c::r).length:Int):=by omega
  have q:decide ((c::r).length≤40)=true:=by simp;simp at A;omega
  rw[q];simp only[U6];by_cases h2:(c.toNat:Int)<97
  ·have u:decide (97≤c.toNat)=false:=by simp;omega
   rw[u,UF,Pm];generalize d:(c::r).length=n at *;rw[ZcL];simp only[go_sem,simprocAttr,f206,k,j,o,d,h2]
   done
  have u:decide (97≤c.toNat)=true:=by simp;omega
  rw[u,UC];by_cases h3:(122:Int)<(c.toNat:Int)
  ·have w:decide (c.toNat≤122)=false:=by simp;omega
   rw[w,Pm];generalize d:(c::r).length=n at *;rw[ZcL];simp only[go_sem,simprocAttr,f206,k,j,o,d,h2,h3]
   done
  have w:decide (c.toNat≤122)=true:=by simp;omega
  rw[w,U6];generalize d:(c::r).length=n at *;rw[ZcL];simp only[go_sem,simprocAttr,f206,k,j,o,d,h2,h3];rw[y _ _ ?_]
  ·cases(c::r).all (chB [95])
   ·rfl
   rw[Vr rfl];simp only[go_sem,simprocAttr]
   done
  rfl
attribute [-go_sem] Zy Zs ZH Z1 ZL Yd Z0
theorem ZzC{kc lt n i lf N w:Nat}{c:Chg}{fs:List LF}(hn:fs.length=w)(U:w≤1000000)(Y:kc<N)(Z:lt<N):
  ∀(r:List LF) (j:Nat) (g:Za) (jj:Int),r=fs.drop j→j≤fs.length→jj=(j:Int)→g.length=N→Zi N (Zk g)=true→g[lf]?=some (.rows 3 (fs.map ZF) true) →
  (∀a∈r,∃l,a.l=some l∧g[l]?=some (.rows 1 (SLs a.f.cols) true)∧a.f.cols.length≤1000000)→(lf::r.filterMap (·.l)).Nodup →
  ∃g':Za,g'.length=N∧Zi N (Zk g')=true∧(∀l,l∉r.filterMap (·.l)→g'[l]?=g[l]?)∧(∀a∈r,∀l,a.l=some l→g'[l]?=some (.rows 1 (SLs (Yv c.nm c.nm2 a.f.cols)) true)) ∧
  ∀(ks:List It) (E:Code),YP f121 4 E→RL K (.run 121 N (.code E::.lp E (some ([3,4,130,131,132],[])) (N+1)::.blk 4 (N+1)::ks) [(3,.ptr N 0),(4,.optr lt n i 0),(130,.own lf w),(131,I (w:Int)),(132,I jj)] (g++[.cells (Zb c)])) =
  R K (.run 121 N ks [(3,.ptr N 0),(4,.optr lt n i 0)] (g'++[.cells (Zb c)]))
 |[],j,g,jj,H,hj,y,o,q,s,A,B=>by
  subst y;refine⟨g,o,q,fun _ _=>rfl,fun a ha=>by simp at ha,fun ks E F=>?_⟩;have e1:j=w:=by have:=congrArg List.length H;simp at this;omega
  have d:¬(j:Int)<(w:Int):=by omega
  have tk:(g++[Blk.cells (Zb c)]).take (N+1)=g++[.cells (Zb c)]:=VM (by simp;omega);simp only[go_sem,simprocAttr,f121]at F;subst F;rw[Ze];simp only[go_sem,simprocAttr,d,tk]
  done
 |a::r,j,g,jj,H,hj,y,o,q,s,A,B=>by
  subst y;have d1:j<fs.length:=by have:=congrArg List.length H;simp at this;omega
  have d:(j:Int)<(w:Int):=by omega
  have h7:=ZQ (i:=j) (n:=w) (by omega) (by omega);have a0:fs[j]?=some a:=by have:=congrArg (·[0]?) H;simp at this;exact this.symm
  have a1:r=fs.drop (j+1):=by have:=congrArg List.tail H;simpa[UY]using this
  obtain⟨k,C,u,a2⟩:=A a VV;have J:k<N:=by rw[←o];exact(Vb.1 u).1
  have fm:(a::r).filterMap (·.l)=k::r.filterMap (·.l):=by simp[C]
  rw[fm]at B;obtain⟨n1,n2⟩:=Vx.1 B;obtain⟨n3,n4⟩:=Vx.1 n2;have n5:k≠lf:=fun e=>n1 (e▸VV);have L:(g.set k (.rows 1 (SLs (Yv c.nm c.nm2 a.f.cols)) true)).length=N:=by rw[Vq];exact o
  have M:Zi N (Zk (g.set k (.rows 1 (SLs (Yv c.nm c.nm2 a.f.cols)) true)))=true:=XK q (Zv _);obtain⟨g',p1,p2,p3,p4,S⟩:=ZzC (c:=c) (lt:=lt) (n:=n) (i:=i) hn U Y Z r (j+1) (g.set k (.rows 1 (SLs (Yv c.nm c.nm2 a.f.cols)) true)) _ a1 (by omega) rfl L M
   (by rw[Vc n5];exact s)
   (fun b G=>by obtain⟨l,e1,e2,e3⟩:=A b (VD _ G);refine⟨l,e1,?_,e3⟩;rw[Vc fun e=>n3 (by rw[e];exact VG.2 ⟨b,G,e1⟩)];exact e2)
   (Vx.2 ⟨fun h=>n1 (VD _ h),n4⟩)
  refine⟨g',p1,p2,fun l hl=>?_,fun b G l e=>?_,fun ks E F=>?_⟩
  ·rw[fm]at hl;rw[p3 l fun h=>hl (VD _ h),Vc fun e=>hl (by rw[←e];exact VV)]
  ·rcases Vn.1 G with rfl|G
   ·rw[C]at e;cases e;rw[p3 k n3,Vf (by rw[o];exact J)]
   exact p4 b G l e
  have S:=S ks E F;have gr:(fs.map ZF)[j]?=some (ZF a):=by rw[Vj,a0];rfl
  have ga:=ZW gr;simp only[ZF,C,Yc]at gr ga;have a3:Zi (g++[Blk.cells (Zb c),.cells [.str a.f.nm,.own k a.f.cols.length,.str a.f.tb]]).length (Zk (g++[Blk.cells (Zb c),.cells [.str a.f.nm,.own k a.f.cols.length,.str a.f.tb]]))=true:=by rw[ZR,ZV];refine VX.2 ⟨Yf q (by simp[o]),?_⟩;show Zi _ [k]=true;simp[Zi,o];omega
  have rn:=Zkt (.inl ⟨rfl,rfl⟩) (h:=g++[Blk.cells (Zb c),.cells [.str a.f.nm,.own k a.f.cols.length,.str a.f.tb]]) c.nm c.nm2 a2 (gL u _) a3;rw[sL u]at rn;have tk:(g.set k (.rows 1 (SLs (Yv c.nm c.nm2 a.f.cols)) true)++[Blk.cells (Zb c),.cells [.str a.f.nm,.own k a.f.cols.length,.str a.f.tb]]).take (N+1)=g.set k (.rows 1 (SLs (Yv c.nm c.nm2 a.f.cols)) true)++[.cells (Zb c)]:=by rw[YL L];rfl
  have O:Zi (N+1) (Zk (g.set k (.rows 1 (SLs (Yv c.nm c.nm2 a.f.cols)) true)++[Blk.cells (Zb c)]))=true:=by rw[ZR,ZV];exact VX.2 ⟨Yf M (by omega),rfl⟩
  have a7:kc<N+1:=by omega
  have a4:lt<N+1:=by omega
  have a5:lf<N+1:=by have:=(Vb.1 s).1;omega
  have a6:N<N+1:=by omega
  simp only[Zb]at rn tk O S ⊢;simp only[go_sem,simprocAttr,f121]at F;subst F;rw[Ze];simp only[go_sem,simprocAttr,d,h7,o,gL s,gL u,gr,ga,hn,tk,O,a4,a5,a6,Vd,gA0 o,gA o,sA o,Vk,Vo,Vl,Vi,rn];rw[Vr (by omega)];exact S
theorem Zzv{kc lt n i lf N w:Nat}{c:Chg}{fs:List LI}(hn:fs.length=w)(U:w≤1000000)(Y:kc<N)(Z:lt<N):
  ∀(r:List LI) (j:Nat) (g:Za) (jj:Int),r=fs.drop j→j≤fs.length→jj=(j:Int)→g.length=N→Zi N (Zk g)=true→g[lf]?=some (.rows 3 (fs.map ZJ) true) →
  (∀a∈r,∃l,a.l=some l∧g[l]?=some (.rows 1 (SLs a.x.cols) true)∧a.x.cols.length≤1000000)→(lf::r.filterMap (·.l)).Nodup →
  ∃g':Za,g'.length=N∧Zi N (Zk g')=true∧(∀l,l∉r.filterMap (·.l)→g'[l]?=g[l]?)∧(∀a∈r,∀l,a.l=some l→g'[l]?=some (.rows 1 (SLs (Yv c.nm c.nm2 a.x.cols)) true)) ∧
  ∀(ks:List It) (E:Code),YP f121 6 E→RL K (.run 121 N (.code E::.lp E (some ([3,147,148,149],[])) (N+1)::.blk 6 (N+1)::ks) [(3,.ptr N 0),(147,.own lf w),(148,I (w:Int)),(149,I jj)] (g++[.cells (Zb c)])) =
  R K (.run 121 N ks [] (g'++[.cells (Zb c)]))
 |[],j,g,jj,H,hj,y,o,q,s,A,B=>by
  subst y;refine⟨g,o,q,fun _ _=>rfl,fun a ha=>by simp at ha,fun ks E F=>?_⟩;have e1:j=w:=by have:=congrArg List.length H;simp at this;omega
  have d:¬(j:Int)<(w:Int):=by omega
  have tk:(g++[Blk.cells (Zb c)]).take (N+1)=g++[.cells (Zb c)]:=VM (by simp;omega);simp only[go_sem,simprocAttr,f121]at F;subst F;rw[Ze];simp only[go_sem,simprocAttr,d,tk]
  done
 |a::r,j,g,jj,H,hj,y,o,q,s,A,B=>by
  subst y;have d1:j<fs.length:=by have:=congrArg List.length H;simp at this;omega
  have d:(j:Int)<(w:Int):=by omega
  have h7:=ZQ (i:=j) (n:=w) (by omega) (by omega);have a0:fs[j]?=some a:=by have:=congrArg (·[0]?) H;simp at this;exact this.symm
  have a1:r=fs.drop (j+1):=by have:=congrArg List.tail H;simpa[UY]using this
  obtain⟨k,C,u,a2⟩:=A a VV;have J:k<N:=by rw[←o];exact(Vb.1 u).1
  have fm:(a::r).filterMap (·.l)=k::r.filterMap (·.l):=by simp[C]
  rw[fm]at B;obtain⟨n1,n2⟩:=Vx.1 B;obtain⟨n3,n4⟩:=Vx.1 n2;have n5:k≠lf:=fun e=>n1 (e▸VV);have L:(g.set k (.rows 1 (SLs (Yv c.nm c.nm2 a.x.cols)) true)).length=N:=by rw[Vq];exact o
  have M:Zi N (Zk (g.set k (.rows 1 (SLs (Yv c.nm c.nm2 a.x.cols)) true)))=true:=XK q (Zv _);obtain⟨g',p1,p2,p3,p4,S⟩:=Zzv (c:=c) (lt:=lt) (n:=n) (i:=i) hn U Y Z r (j+1) (g.set k (.rows 1 (SLs (Yv c.nm c.nm2 a.x.cols)) true)) _ a1 (by omega) rfl L M
   (by rw[Vc n5];exact s)
   (fun b G=>by obtain⟨l,e1,e2,e3⟩:=A b (VD _ G);refine⟨l,e1,?_,e3⟩;rw[Vc fun e=>n3 (by rw[e];exact VG.2 ⟨b,G,e1⟩)];exact e2)
   (Vx.2 ⟨fun h=>n1 (VD _ h),n4⟩)
  refine⟨g',p1,p2,fun l hl=>?_,fun b G l e=>?_,fun ks E F=>?_⟩
  ·rw[fm]at hl;rw[p3 l fun h=>hl (VD _ h),Vc fun e=>hl (by rw[←e];exact VV)]
  ·rcases Vn.1 G with rfl|G
   ·rw[C]at e;cases e;rw[p3 k n3,Vf (by rw[o];exact J)]
   exact p4 b G l e
  have S:=S ks E F;have gr:(fs.map ZJ)[j]?=some (ZJ a):=by rw[Vj,a0];rfl
  have ga:=ZW gr;simp only[ZJ,C,Yc]at gr ga;have a3:Zi (g++[Blk.cells (Zb c),.cells [.str a.x.nm,.own k a.x.cols.length,.bool a.x.uq]]).length (Zk (g++[Blk.cells (Zb c),.cells [.str a.x.nm,.own k a.x.cols.length,.bool a.x.uq]]))=true:=by rw[ZR,ZV];refine VX.2 ⟨Yf q (by simp[o]),?_⟩;show Zi _ [k]=true;simp[Zi,o];omega
  have rn:=Zkt (.inl ⟨rfl,rfl⟩) (h:=g++[Blk.cells (Zb c),.cells [.str a.x.nm,.own k a.x.cols.length,.bool a.x.uq]]) c.nm c.nm2 a2 (gL u _) a3;rw[sL u]at rn;have tk:(g.set k (.rows 1 (SLs (Yv c.nm c.nm2 a.x.cols)) true)++[Blk.cells (Zb c),.cells [.str a.x.nm,.own k a.x.cols.length,.bool a.x.uq]]).take (N+1)=g.set k (.rows 1 (SLs (Yv c.nm c.nm2 a.x.cols)) true)++[.cells (Zb c)]:=by rw[YL L];rfl
  have O:Zi (N+1) (Zk (g.set k (.rows 1 (SLs (Yv c.nm c.nm2 a.x.cols)) true)++[Blk.cells (Zb c)]))=true:=by rw[ZR,ZV];exact VX.2 ⟨Yf M (by omega),rfl⟩
  have a6:kc<N+1:=by omega
  have a7:lt<N+1:=by omega
  have a4:lf<N+1:=by have:=(Vb.1 s).1;omega
  have a5:N<N+1:=by omega
  simp only[Zb]at rn tk O S ⊢;simp only[go_sem,simprocAttr,f121]at F;subst F;rw[Ze];simp only[go_sem,simprocAttr,d,h7,o,gL s,gL u,gr,ga,hn,tk,O,a4,a5,Vd,gA0 o,gA o,sA o,Vk,Vo,Vl,Vi,rn];rw[Vr (by omega)];exact S
def Zfh(t:Tbl)(j:Nat)(col:Col)(c:Chg):Tbl:=⟨t.nm,t.cols.set j {col with nm:=c.nm2},Yv c.nm c.nm2 t.key,t.fgn.map fun f=>{f with cols:=Yv c.nm c.nm2 f.cols},t.idx.map fun f=>{f with cols:=Yv c.nm c.nm2 f.cols}⟩
def LT.own(t:LT):Prop:=(∀a∈t.fs,∃l,a.l=some l)∧∀a∈t.is,∃l,a.l=some l
section
variable{h:Za}{kc lt i:Nat}{X:List LT}{T:LT}{c:Chg}
theorem Zh7(hs:SchAt h lt X)(L:Shut h)(hk:h[kc]?=some (.cells (kcC lt X.length i c)))(hi:X[i]?=some T)(M:FitT T.tbl)(G:c.kd=6)(a6:c.nm2.length≤100000000)(y:T.pl.Nodup)
  {j:Nat}  (h0:ixN c.nm (T.cols.map (·.nm)) 0=(j:Int)) (hj:T.cols[j]?=some col) (s:T.own) (O:T.fs.length≤1000000∧T.is.length≤1000000) (H:Xw c.nm2=true) (ae:ixN c.nm2 (T.cols.map (·.nm)) 0<0) :
  ∃g:Za,R K (.call 121 [.ptr kc 0] h)=some (I 0,g++[.cells (Zb c)])∧g.length=h.length∧(∀l,l∉T.pl→g[l]?=h[l]?)∧HT g ⟨T.nm,T.cols.set j {col with nm:=c.nm2},T.lc,Yv c.nm c.nm2 T.key,T.lk,T.fs.map fun a=>⟨{a.f with cols:=Yv c.nm c.nm2 a.f.cols},a.l⟩,T.lf,T.is.map fun a=>⟨{a.x with cols:=Yv c.nm c.nm2 a.x.cols},a.l⟩,T.li⟩:=by
 have S:=(Vb.1 hk).1;have u:=hs.ht T (Ve hi);have a7:=(Vb.1 u.c).1;have a8:=(Vb.1 u.k).1;have hN:h.length=h.length:=rfl;have A:(h++[Blk.cells (Zb c)]).length=h.length+1:=by simp
 have nk:(kc==h.length)=false:=by rw[VR];omega
 have g2:(X.map Zn)[i]?=some (Zn T):=by rw[Vj,hi];rfl
 simp only[Zn]at g2;have cl:∀t,R K (.call 209 [.ptr kc 0] (h++t))=some (.optr T.lc T.cols.length j 0,h++t):=fun t=>QF (hs.app t) (gL hk t) hi M.cols rfl _ (.inr ⟨j,col,h0,hj,rfl⟩);have hS:=L.add (Zdf c) (ZbO c);have w1:=ZmW (F:=R K) (t:=[]) (g:=h++[.cells (Zb c)]) A (by have:=hS.cl;rwa [A]at this) (args:=[.ptr kc 0]) (by simp[Zg,locs,Zi];omega) (cl _) A (by simp[locs,Zi];omega) (by have:=hS.cl;rwa [A]at this);rw[Vv]at w1;have q0:=hS.quiet [];rw[Vv,A]at q0;have tl:=ZfM c.nm2 a6;rw[H]at tl;have cc:=JC T.tbl c.nm2 M.cols;rw[show(T.tbl.cols.map (·.nm))=T.cols.map (·.nm)from rfl]at cc;have U:¬0≤ixN c.nm2 (T.cols.map (·.nm)) 0:=by omega
 have sn:=fun t=>XO (u.app t).seen [.str c.nm2] [.str c.nm2] rfl;simp only[Zn]at sn;have q:=fun t=>(u.app t).quiet 100 (ls:=[T.lc,T.lk,T.lf,T.li]) (by simp[LT.pl]);have g4:(T.cols.map Zh)[j]?=some (Zh col):=by rw[Vj,hj];rfl
 simp only[Zh]at g4;have sC:∀(a:List UInt8) (b:Int) (d:Bool) (e f:Int) (g:List UInt8),(T.cols.map Zh).set j [.str a,I b,.bool d,I e,I f,.str g]=(T.cols.set j ⟨a,b,d,⟨e,f,g⟩⟩).map Zh:=fun a b d e f g=>by rw[V9];rfl
 have a9:lt≠T.lc:=fun e=>(Vx.1 hs.ap).1 (V1.2 ⟨T,Ve hi,e▸VV⟩);have gt:∀b:Blk,(h.set T.lc b)[lt]?=some (.rows 5 (X.map Zn) true):=fun b=>by rw[Vc (fun e=>a9 e.symm)];exact hs.tb
 have lS:∀b:Blk,(h.set T.lc b).length=h.length:=fun b=>Vq;have aa:∀b b':Blk,((h.set T.lc b).set T.lk b').length=h.length:=fun b b'=>by simp
 have B:=Vx.1 y;have ck:T.lc≠T.lk:=fun e=>B.1 (e▸VV);have ab:lt≠T.lk:=fun e=>(Vx.1 hs.ap).1 (V1.2 ⟨T,Ve hi,by rw[e];simp[LT.pl]⟩);have cf:T.lc≠T.lf:=fun e=>B.1 (by rw[e];simp);have ci:T.lc≠T.li:=fun e=>B.1 (by rw[e];simp);have kf:T.lk≠T.lf:=fun e=>(Vx.1 B.2).1 (by rw[e];simp);have ki:T.lk≠T.li:=fun e=>(Vx.1 B.2).1 (by rw[e];simp);have gU:∀b b':Blk,((h.set T.lc b).set T.lk b')[lt]?=some (.rows 5 (X.map Zn) true):=fun b b'=>by rw[Vc ab.symm];exact gt b
 have gF:∀b b':Blk,((h.set T.lc b).set T.lk b')[T.lf]?=some (.rows 3 (T.fs.map ZF) true):=fun b b'=>by rw[Vc kf,Vc cf];exact u.f
 have gI:∀b b':Blk,((h.set T.lc b).set T.lk b')[T.li]?=some (.rows 3 (T.is.map ZJ) true):=fun b b'=>by rw[Vc ki,Vc ci];exact u.i
 have Y:∀b:Blk,(h.set T.lc b)[T.lk]?=some (.rows 1 (SLs T.key) true):=fun b=>by rw[Vc ck];exact u.k
 have u1:∀cols:List Col,Zi h.length (Zk (h.set T.lc (.rows 6 (cols.map Zh) true)))=true:=fun cols=>XK L.cl (Zw cols);have u2:∀(cols:List Col) (R:List (List UInt8)),Zi h.length (Zk ((h.set T.lc (.rows 6 (cols.map Zh) true)).set T.lk (.rows 1 (SLs R) true)))=true:=fun cols R=>XK (u1 cols) (Zv R);have uC:∀g:Za,Zi h.length (Zk g)=true→Zi (h.length+1) (Zk (g++[Blk.cells (Zb c)]))=true:=fun g hg=>by rw[ZR,ZV];exact VX.2 ⟨Yf hg (by omega),rfl⟩
 have w2:=fun cols:List Col=>by
  have r1:=Zkt (.inl ⟨rfl,rfl⟩) (h:=h.set T.lc (.rows 6 (cols.map Zh) true)++[.cells (Zb c)]) c.nm c.nm2 M.key (gL (Y _) _) (by rw[Vu,lS];exact uC _ (u1 cols))
  rw[sL (Y _)]at r1;exact ZmW (F:=R K) (t:=[]) (N:=h.length+1) (by simp) (uC _ (u1 cols)) (args:=[.own T.lk T.key.length,.str c.nm,.str c.nm2]) (by simp[Zg,locs,Zi];omega) r1 (by simp) rfl (uC _ (u2 cols _))
 simp only[Vv]at w2;rw[PU]at w2;rw[PU]at w1 q0;simp only[Zb,G]at w1 w2 q0;generalize ixN c.nm2 (T.cols.map (·.nm)) 0=m at *;have ac:=aa (.rows 6 ((T.cols.set j {col with nm:=c.nm2}).map Zh) true) (.rows 1 (SLs (Yv c.nm c.nm2 T.key)) true);have Z:(T.lf::T.fs.filterMap (·.l)).Nodup:=by refine U7 ?_ y;show(T.lf::T.fs.filterMap (·.l)).Sublist (T.lc::T.lk::T.lf::T.li::(T.fs.filterMap (·.l)++T.is.filterMap (·.l)));exact .cons _ (.cons _ (.cons_cons _ (.cons _ (List.sublist_append_left ..))))
 have a0:(T.li::T.is.filterMap (·.l)).Nodup:=by refine U7 ?_ y;show(T.li::T.is.filterMap (·.l)).Sublist (T.lc::T.lk::T.lf::T.li::(T.fs.filterMap (·.l)++T.is.filterMap (·.l)));exact .cons _ (.cons _ (.cons _ (.cons_cons _ (Pa ..))))
 have mF:∀a∈T.fs,∀l,a.l=some l→l∈T.fs.filterMap (·.l):=fun a o l e=>VG.2 ⟨a,o,e⟩;have mI:∀a∈T.is,∀l,a.l=some l→l∈T.is.filterMap (·.l):=fun a o l e=>VG.2 ⟨a,o,e⟩;have E:∀l∈T.fs.filterMap (·.l),l≠T.lc∧l≠T.lk∧l≠T.li∧l∉T.is.filterMap (·.l):=fun l w=>by have C:(T.lc::T.lk::T.lf::T.li::(T.fs.filterMap (·.l)++T.is.filterMap (·.l))).Nodup:=y;simp only[Vx,Vn,Vg,So,VY]at C;exact⟨fun e=>C.1.2.2.2.1 (e▸w),fun e=>C.2.1.2.2.1 (e▸w),fun e=>C.2.2.2.1.1 (e▸w),fun h=>C.2.2.2.2.2.2 l w l h rfl⟩
 have oI:∀l∈T.is.filterMap (·.l),l≠T.lc∧l≠T.lk∧l≠T.lf:=fun l w=>by have C:(T.lc::T.lk::T.lf::T.li::(T.fs.filterMap (·.l)++T.is.filterMap (·.l))).Nodup:=y;simp only[Vx,Vn,Vg,So,VY]at C;exact⟨fun e=>C.1.2.2.2.2 (e▸w),fun e=>C.2.1.2.2.2 (e▸w),fun e=>C.2.2.1.2.2 (e▸w)⟩
 have fx:∀(b b':Blk) (l:Nat),l≠T.lc→l≠T.lk→((h.set T.lc b).set T.lk b')[l]?=h[l]?:=fun b b' l e1 e2=>by rw[Vc e2.symm,Vc e1.symm]
 obtain⟨g1,a1,a2,J,a4,a5⟩:=ZzC (kc:=kc) (lt:=lt) (n:=X.length) (i:=i) (lf:=T.lf) (N:=h.length) (c:=c) (fs:=T.fs) rfl O.1 S (Vb.1 hs.tb).1 T.fs 0 _ 0 rfl (UB _) rfl ac (u2 _ _) (gF _ _)
  (fun a o=>by obtain⟨l,e⟩:=s.1 a o;have:=E l (mF a o l e);exact⟨l,e,by rw[fx _ _ l this.1 this.2.1];exact u.fc a o l e,(M.fg a.f (by simp only[LT.tbl,VE];exact⟨a,o,rfl⟩)).2⟩) Z
 obtain⟨g,b1,b2,b3,b4,b5⟩:=Zzv (kc:=kc) (lt:=lt) (n:=X.length) (i:=i) (lf:=T.li) (N:=h.length) (c:=c) (fs:=T.is) rfl O.2 S (Vb.1 hs.tb).1 T.is 0 g1 0 rfl (UB _) rfl a1 a2
  (by rw[J T.li fun h=>(E _ h).2.2.1 rfl];exact gI _ _)
  (fun a o=>by obtain⟨l,e⟩:=s.2 a o;have:=oI l (mI a o l e);exact⟨l,e,by rw[J l fun h=>(E l h).2.2.2 (mI a o l e),fx _ _ l this.1 this.2.1];exact u.ic a o l e,(M.ix a.x (by simp only[LT.tbl,VE];exact⟨a,o,rfl⟩)).2⟩) a0
 refine⟨g,?_,b1,fun l w=>?_,?_⟩
 ·have ad:g1[lt]?=some (.rows 5 (X.map Zn) true):=by rw[J lt fun h=>(Vx.1 hs.ap).1 (V1.2 ⟨T,Ve hi,by simp only[LT.pl,Vn,Vg];exact .inr (.inr (.inr (.inr (.inl h))))⟩)];exact gU _ _
  have af:g1[T.li]?=some (.rows 3 (T.is.map ZJ) true):=by rw[J T.li fun h=>(E _ h).2.2.1 rfl];exact gI _ _
  simp only[Zb,G]at a5 b5 ⊢;rw[Zbt];simp only[go_sem,simprocAttr,f121,G,U,tl,w1,w2,gL (gU _ _),q0,gL hk,gL hs.tb,g2,g4,sC,cl,sn,cc,gL u.c,gL u.k,gL u.f,gL u.i,sL u.c,gL (gt _),gA0 (lS _),Zb,ZB,Zf,Vd,gA0 hN,sA0 hN,Ub,nk,VN,VW,Vo,Vl,Vi];rw[show T.tbl.key=T.key from rfl];rw[a5 _ _ ?_]
  rotate_left
  ·rfl
  simp only[go_sem,simprocAttr,g2,a1,gL ad,Vd];rw[b5 _ _ ?_]
  rotate_left
  ·rfl
  simp only[go_sem,simprocAttr]
  done
 ·simp only[LT.pl,Vn,Vg,So]at w;rw[b3 l w.2.2.2.2.2,J l w.2.2.2.2.1];exact fx _ _ l w.1 w.2.1
 have nl:∀a:LF,((fun a:LF=>(⟨{a.f with cols:=Yv c.nm c.nm2 a.f.cols},a.l⟩:LF)) a).l=a.l:=fun _=>rfl;have eF:(T.fs.map fun a=>(⟨{a.f with cols:=Yv c.nm c.nm2 a.f.cols},a.l⟩:LF)).map ZF=T.fs.map ZF:=by rw[V8];refine Ul fun a o=>?_;obtain⟨l,e⟩:=s.1 a o;simp[ZF,Yc,e,WF]
 have eI:(T.is.map fun a=>(⟨{a.x with cols:=Yv c.nm c.nm2 a.x.cols},a.l⟩:LI)).map ZJ=T.is.map ZJ:=by rw[V8];refine Ul fun a o=>?_;obtain⟨l,e⟩:=s.2 a o;simp[ZJ,Yc,e,WF]
 have nF:∀l,(∀x∈T.fs.filterMap (·.l),x≠l)→(∀x∈T.is.filterMap (·.l),x≠l)→g[l]?=(((h.set T.lc (.rows 6 ((T.cols.set j {col with nm:=c.nm2}).map Zh) true)).set T.lk (.rows 1 (SLs (Yv c.nm c.nm2 T.key)) true)))[l]?:=fun l e1 e2=>by rw[b3 l fun h=>e2 l h rfl];exact J l fun h=>e1 l h rfl
 refine⟨?_,?_,?_,?_,fun a o l e=>?_,fun a o l e=>?_⟩
 ·rw[nF T.lc (fun x r=>(E x r).1) (fun x r=>(oI x r).1),Vc ck.symm,Vf a7]
 ·rw[nF T.lk (fun x r=>(E x r).2.1) (fun x r=>(oI x r).2.1),Vf (by simpa using a8)]
 ·rw[nF T.lf (fun x r e=>(Vx.1 Z).1 (e▸r)) (fun x r=>(oI x r).2.2),eF];exact gF _ _
 ·rw[nF T.li (fun x r=>(E x r).2.2.1) (fun x r e=>(Vx.1 a0).1 (e▸r)),eI];exact gI _ _
 ·obtain⟨b,hb,rfl⟩:=VE.1 o;rw[b3 l fun h=>(E l (mF b hb l e)).2.2.2 h];exact a4 b hb l e
 obtain⟨b,hb,rfl⟩:=VE.1 o;exact b4 b hb l e
end
section
variable{h:Za}{kc lt i:Nat}{X:List LT}{T:LT}{c:Chg}
theorem Zjh(hs:SchAt h lt X)(e:h[kc]?=some (.cells (kcC lt X.length i c)))(hi:X[i]?=some T)(q:FitT T.tbl)(d:c.kd=5∨c.kd=6)(r:ixN c.nm (T.cols.map (·.nm)) 0<0):
  R K (.call 121 [.ptr kc 0] h)=some (I 5,h++[.cells (Zb c)]):=by
 have s:=(Vb.1 e).1;have j:h.length=h.length:=rfl;have k:(kc==h.length)=false:=by rw[VR];omega
 have o:∀t,R K (.call 209 [.ptr kc 0] (h++t))=some (.nilp,h++t):=fun t=>QF (hs.app t) (gL e t) hi q.cols rfl _ (.inl ⟨r,rfl⟩);rw[Zbt];rcases d with d|d
 ·simp only[go_sem,simprocAttr,f121,d,gL e,o,Zb,ZB,Zf,gA0 j,sA0 j,k,VN,VW,Vl,Vi]
 simp only[go_sem,simprocAttr,f121,d,gL e,o,Zb,ZB,Zf,gA0 j,sA0 j,k,VN,VW,Vl,Vi]
theorem ZeV(hs:SchAt h lt X)(s:h[kc]?=some (.cells (kcC lt X.length i c)))(hi:X[i]?=some T)(B:FitT T.tbl)(o:c.kd=6)(y:c.nm2.length≤100000000){j:Nat}(J:ixN c.nm (T.cols.map (·.nm)) 0=(j:Int))(L:T.cols[j]?=some col)(r:Xw c.nm2=false∨0≤ixN c.nm2 (T.cols.map (·.nm)) 0):
  R K (.call 121 [.ptr kc 0] h)=some (I (if Xw c.nm2=true then 6 else 5),h++[.cells (Zb c)]):=by
 have M:=(Vb.1 s).1;have d:=hs.ht T (Ve hi);have u:h.length=h.length:=rfl;have C:(kc==h.length)=false:=by rw[VR];omega
 have E:(X.map Zn)[i]?=some (Zn T):=by rw[Vj,hi];rfl
 simp only[Zn]at E;have F:∀t,R K (.call 209 [.ptr kc 0] (h++t))=some (.optr T.lc T.cols.length j 0,h++t):=fun t=>QF (hs.app t) (gL s t) hi B.cols rfl _ (.inr ⟨j,col,J,L,rfl⟩);have w:=ZfM c.nm2 y;have G:=JC T.tbl c.nm2 B.cols;rw[show(T.tbl.cols.map (·.nm))=T.cols.map (·.nm)from rfl]at G;have H:=fun t=>XO (d.app t).seen [.str c.nm2] [.str c.nm2] rfl;simp only[Zn]at H;have q:=fun t=>(d.app t).quiet 100 (ls:=[T.lc,T.lk,T.lf,T.li]) (by simp[LT.pl]);generalize ixN c.nm2 (T.cols.map (·.nm)) 0=m at *;rw[Zbt];cases A:Xw c.nm2
 ·rw[A]at w;simp only[go_sem,simprocAttr,f121,o,gL s,F,Zb,ZB,Zf,gA0 u,sA0 u,C,VN,VW,Vl,Vi,w]
  done
 rw[A]at w;have N:0≤m:=r.elim (fun e=>by rw[A]at e;simp at e) id;simp only[go_sem,simprocAttr,f121,o,gL s,gL hs.tb,F,Zb,ZB,Zf,Vd,gA0 u,sA0 u,Ub,C,VN,VW,Vo,Vl,Vi,w,E,H,G,gL d.c,gL d.k,gL d.f,gL d.i,N]
 done
end
def Xs(cols:List Col):List (List UInt8)→List Col→List (List UInt8)→Int×List Col
 |_,L,[]=>(0,L)
 |pre,L,n::r=>if ixN n (cols.map (·.nm)) 0<0 then(5,L)else if pre.contains n=true then(6,L)else Xs cols (pre++[n]) (L++(cols[(ixN n (cols.map (·.nm)) 0).toNat]?).toList) r
section
variable{h:Za}{kc lt i:Nat}{X:List LT}{T:LT}{c:Chg}
theorem ZAb(hs:SchAt h lt X)(y:Shut h)(hi:X[i]?=some T)(ht:FitT T.tbl)(e:c.kd=15)(S:c.cls.length≤1000000){ks:List It}:
  ∀(r:List (List UInt8)) (j:Nat) (L:List Col) (jj:Int) (w:Code),YP f121 8 w→r=c.cls.drop j→j≤c.cls.length→jj=(j:Int)→L.length=j →
  RL K (.run 121 h.length (.code w::.lp w (some ([3,4,9,164,165,166],[])) (h.length+2)::.blk 8 (h.length+2)::ks) [(3,.ptr h.length 0),(4,.optr lt X.length i 0),(9,.own (h.length+1) L.length),(164,.rows (SLs c.cls)),(165,I (c.cls.length:Int)),(166,I jj)] (h++[.cells (Zb c),.rows 6 (L.map Zh) true])) =
  if(Xs T.cols (c.cls.take j) L r).1=0 then R K (.run 121 h.length ks [(4,.optr lt X.length i 0),(9,.own (h.length+1) (Xs T.cols (c.cls.take j) L r).2.length)] (h++[.cells (Zb c),.rows 6 ((Xs T.cols (c.cls.take j) L r).2.map Zh) true]))
  else some (I (Xs T.cols (c.cls.take j) L r).1,h++[.cells (Zb c),.rows 6 ((Xs T.cols (c.cls.take j) L r).2.map Zh) true])
 |[],j,L,jj,w,q,A,hj,u,hL=>by
  subst u;have e1:j=c.cls.length:=by have:=congrArg List.length A;simp at this;omega
  have d:¬(j:Int)<(c.cls.length:Int):=by omega
  rw[Xs,Vr rfl];have tk:(h++[Blk.cells (Zb c),.rows 6 (L.map Zh) true]).take (h.length+2)=h++[Blk.cells (Zb c),.rows 6 (L.map Zh) true]:=VM (by simp);simp only[go_sem,simprocAttr,f121]at q;subst q;rw[Ze];simp only[go_sem,simprocAttr,d,tk]
  done
 |nm::r,j,L,jj,w,q,A,hj,u,hL=>by
  subst u;have d1:j<c.cls.length:=by have:=congrArg List.length A;simp at this;omega
  have d:(j:Int)<(c.cls.length:Int):=by omega
  have h7:=ZQ (i:=j) (n:=c.cls.length) (by omega) (by omega);have B:c.cls[j]?=some nm:=by have:=congrArg (·[0]?) A;simp at this;exact this.symm
  have U:r=c.cls.drop (j+1):=by have:=congrArg List.tail A;simpa[UY]using this
  have gr:(SLs c.cls)[j]?=some [.str nm]:=by rw[SLs,Vj,B];rfl
  have Y:=ZW gr;have F:=hs.ht T (Ve hi);have G:h.length=h.length:=rfl;have H:(X.map Zn)[i]?=some (Zn T):=by rw[Vj,hi];rfl
  simp only[Zn]at H;have C:=JC T.tbl nm ht.cols;rw[show(T.tbl.cols.map (·.nm))=T.cols.map (·.nm)from rfl]at C;have J:=fun t=>XO (F.app t).seen [.str nm] [.str nm] rfl;simp only[Zn]at J;have M:=YR nm (c.cls.take j) (by rw[Sv];omega);have e0:(SLs c.cls).take j=SLs (c.cls.take j):=by rw[SLs,←UV,SLs]
  have et:c.cls.take (j+1)=c.cls.take j++[nm]:=by rw[Sd,B];rfl
  have b1:(j:Int)≤(c.cls.length:Int):=by omega
  have b2:(0:Int)≤(j:Int):=by omega
  rw[Xs];by_cases N:ixN nm (T.cols.map (·.nm)) 0<0
  ·rw[Vr N,Vm (by simp)];generalize ixN nm (T.cols.map (·.nm)) 0=m at *;simp only[go_sem,simprocAttr,f121]at q;subst q;rw[Ze];simp only[go_sem,simprocAttr,d,N,Y,H,C,J,gL hs.tb,gL F.c,e,Zb,Vd]
   done
  rw[Vm N];obtain⟨p,col,hp,o⟩:=J0 (t:=T.tbl) (n:=nm) N;rw[show(T.tbl.cols.map (·.nm))=T.cols.map (·.nm)from rfl]at hp;have o:T.cols[p]?=some col:=o;rw[hp]at C ⊢;have E:¬(p:Int)<0:=by omega
  have g3:=Ym o;have g4:(T.cols.map Zh)[p]?=some (Zh col):=by rw[Vj,o];rfl
  simp only[Zh]at g4;cases hd:(c.cls.take j).contains nm
  ·rw[hd]at M;simp only[V6,UA];rw[Vk,o,Option.toList_some];have Z:=ZAb hs y hi ht e S (ks:=ks) r (j+1) (L++[col]) _ w q U (by omega) rfl (by simp[hL]);rw[et,Vu,VC,VI]at Z;have eC:L.map Zh++[[.str col.nm,I col.kd,.bool col.nl,I col.df.k,I col.df.n,.str col.df.s]]=(L++[col]).map Zh:=by simp[Zh]
   have rm:(j+1)*65≤Zp:=by unfold Zp;omega
   have a0:(L.length+1)*65≤Zp:=by unfold Zp;omega
   have tk:∀Q:List Col,(h++[Blk.cells (Zb c),.rows 6 (Q.map Zh) true]).take (h.length+2)=h++[Blk.cells (Zb c),.rows 6 (Q.map Zh) true]:=fun Q=>VM (by simp);have uc:∀Q:List Col,Zi (h.length+2) (Zk (h++[Blk.cells (Zb c),.rows 6 (Q.map Zh) true]))=true:=fun Q=>by rw[ZR,ZV];refine VX.2 ⟨Yf y.cl (by omega),?_⟩;show Zi _ (Zz (Q.map Zh)++[])=true;rw[Zw];rfl
   have lo:lt<h.length+2:=by have:=(Vb.1 hs.tb).1;omega
   simp only[Zb,e]at tk uc Z;generalize Xs T.cols (c.cls.take j++[nm]) (L++[col]) r=O at *;simp only[go_sem,simprocAttr,f121]at q;subst q;rw[Ze];simp only[go_sem,simprocAttr,d,h7,E,Y,H,g3,g4,C,J,M,e0,Xc,V4,b1,b2,eC,a0,tk,uc,lo,gL hs.tb,gL F.c,e,Zb,Vd,gA0 G,gA G,sA G,Vk,Vo,Vl,Vi];exact Z
  rw[hd]at M;simp only[V7];rw[Vm (show ¬(6:Int)=0 by omega)];simp only[go_sem,simprocAttr,f121]at q;subst q;rw[Ze];simp only[go_sem,simprocAttr,d,E,Y,H,C,J,M,e0,Xc,V4,b1,b2,gL hs.tb,gL F.c,e,Zb,Vd,gA0 G,Vk]
  done
theorem Zg9(hs:SchAt h lt X)(j:Shut h)(r:h[kc]?=some (.cells (kcC lt X.length i c)))(hi:X[i]?=some T)(u:FitT T.tbl)(d:c.kd=15)(k:c.cls.length≤1000000):
  R K (.call 121 [.ptr kc 0] h) =
   (if(Xs T.cols [] [] c.cls).1=0 then(if(Xs T.cols [] [] c.cls).2.length<T.cols.length then some (I 3,h++[.cells (Zb c),.rows 6 ((Xs T.cols [] [] c.cls).2.map Zh) true])
    else some (I 0,h.set lt (.rows 5 ((X.map Zn).set i [.str T.nm,.own (h.length+1) (Xs T.cols [] [] c.cls).2.length,.own T.lk T.key.length,.own T.lf T.fs.length,.own T.li T.is.length]) true)++[.cells (Zb c),.rows 6 ((Xs T.cols [] [] c.cls).2.map Zh) true]))
   else some (I (Xs T.cols [] [] c.cls).1,h++[.cells (Zb c),.rows 6 ((Xs T.cols [] [] c.cls).2.map Zh) true])):=by
 have w:=(Vb.1 r).1;have A:=hs.ht T (Ve hi);have o:h.length=h.length:=rfl;have y:(kc==h.length)=false:=by rw[VR];omega
 have q:(X.map Zn)[i]?=some (Zn T):=by rw[Vj,hi];rfl
 simp only[Zn]at q;have s:=fun(ks:List It) Bo hB=>ZAb (ks:=ks) hs j hi u d k c.cls 0 [] 0 Bo hB rfl (UB _) rfl rfl;simp only[Zb,d,Sp,VO,VI]at s;rw[Zbt];simp only[go_sem,simprocAttr,f121,d,gL r,Zb,ZB,Zf,Vd,gA0 o,sA0 o,y,VN,VW,Vo,Vl,Vi];rw[s _ _ ?_]
 rotate_left
 ·rfl
 generalize Xs T.cols [] [] c.cls=O;by_cases e:O.1=0
 ·rw[Vr e,Vr e];by_cases h2:O.2.length<T.cols.length
  ·have h3:(O.2.length:Int)<(T.cols.length:Int):=by omega
   rw[Vr h2];simp only[go_sem,simprocAttr,h3,gL hs.tb,q,Vd]
   done
  have h3:¬(O.2.length:Int)<(T.cols.length:Int):=by omega
  rw[Vm h2];simp only[go_sem,simprocAttr,h3,gL hs.tb,q,sL hs.tb,Vd,gA o,Vl,Vi]
  done
 rw[Vm e,Vm e]
end
section
variable{h:Za}{kc lt i:Nat}{X:List LT}{T:LT}{c:Chg}
theorem Zmr(hs:SchAt h lt X)(u:h[kc]?=some (.cells (kcC lt X.length i c)))(hi:X[i]?=some T)(E:FitT T.tbl)(o:c.kd=12){m:Int}(H:ixN c.nm (T.tbl.idx.map (·.nm)) 0=m)(N:m<(T.is.length:Int)):
  R K (.call 123 [.ptr kc 0] h)=(if m<0 then some (I 5,h++[.cells (Zb c)])else
   some (I 0,(h.set T.li (.rows 3 ((T.is.map ZJ).eraseIdx m.toNat++[[.str [],.nils,.bool false]]) true)).set lt (.rows 5 ((X.map Zn).set i [.str T.nm,.own T.lc T.cols.length,.own T.lk T.key.length,.own T.lf T.fs.length,.vw T.li T.is.length 0 (T.is.length-1)]) true)++[.cells (Zb c)])):=by
 have J:=(Vb.1 u).1;have d:=hs.ht T (Ve hi);have w:=(Vb.1 d.i).1;have r:h.length=h.length:=rfl;have F:(kc==h.length)=false:=by rw[VR];omega
 have y:(X.map Zn)[i]?=some (Zn T):=by rw[Vj,hi];rfl
 simp only[Zn]at y;have A:=ZhK T.tbl c.nm E.idx;rw[H]at A;have B:=fun t=>XO (d.app t).seen [.str c.nm] [.str c.nm] rfl;simp only[Zn]at B;have q:=fun t=>(d.app t).quiet 100 (ls:=[T.lc,T.lk,T.lf,T.li]) (by simp[LT.pl]);have C:lt≠T.li:=fun e=>(Vx.1 hs.ap).1 (V1.2 ⟨T,Ve hi,by rw[e];simp[LT.pl]⟩);have G:∀b:Blk,(h.set T.li b)[lt]?=some (.rows 5 (X.map Zn) true):=fun b=>by rw[Vc (fun e=>C e.symm)];exact hs.tb
 have O:∀b:Blk,(h.set T.li b)[T.li]?=some b:=fun b=>Vf w;have S:∀b:Blk,(h.set T.li b).length=h.length:=fun b=>Vq;rw[Zbp];by_cases s:m<0
 ·rw[Vr s];simp only[go_sem,simprocAttr,f123,o,s,gL u,gL hs.tb,y,B,A,gL d.c,gL d.k,gL d.f,gL d.i,Zb,ZB,Zf,Vd,gA0 r,sA0 r,Ub,F,VN,VW,Vo,Vl,Vi]
  done
 rw[Vm s];obtain⟨j,rfl⟩:=UW (show 0≤m by omega);have lf:T.is.length≤1000000:=by have:=E.idx;simpa[LT.tbl]using this
 have L:=ZQ (i:=j) (n:=T.is.length) (by omega) (by omega);have dl:=Zyv .kI (h:=h++[.cells (Zb c)]) (lc:=T.li) (n:=T.is.length) (m:=j) (rs:=T.is.map ZJ) (gL d.i _) (by simp) lf (by omega) (fun row M=>by obtain⟨a,_,rfl⟩:=VE.1 M;rfl)
 simp only[Kd.zz,Kd.zr,Kd.dl]at dl;rw[sL d.i]at dl;simp only[Zb,o]at dl;simp only[go_sem,simprocAttr,f123,o,s,gL u,gL hs.tb,y,B,A,gL d.c,gL d.k,gL d.f,gL d.i,Zb,ZB,Zf,Vd,gA0 r,sA0 r,Ub,F,VN,VW,Vo,Vl,Vi,L,dl,gL (G _),sL (G _),Vk]
 done
theorem Zmt(hs:SchAt h lt X)(u:h[kc]?=some (.cells (kcC lt X.length i c)))(hi:X[i]?=some T)(E:FitT T.tbl)(o:c.kd=14){m:Int}(H:ixN c.nm (T.tbl.fgn.map (·.nm)) 0=m)(N:m<(T.fs.length:Int)):
  R K (.call 123 [.ptr kc 0] h)=(if m<0 then some (I 5,h++[.cells (Zb c)])else
   some (I 0,(h.set T.lf (.rows 3 ((T.fs.map ZF).eraseIdx m.toNat++[[.str [],.nils,.str []]]) true)).set lt (.rows 5 ((X.map Zn).set i [.str T.nm,.own T.lc T.cols.length,.own T.lk T.key.length,.vw T.lf T.fs.length 0 (T.fs.length-1),.own T.li T.is.length]) true)++[.cells (Zb c)])):=by
 have J:=(Vb.1 u).1;have d:=hs.ht T (Ve hi);have w:=(Vb.1 d.f).1;have r:h.length=h.length:=rfl;have F:(kc==h.length)=false:=by rw[VR];omega
 have y:(X.map Zn)[i]?=some (Zn T):=by rw[Vj,hi];rfl
 simp only[Zn]at y;have A:=Zfz T.tbl c.nm E.fgn;rw[H]at A;have B:=fun t=>XO (d.app t).seen [.str c.nm] [.str c.nm] rfl;simp only[Zn]at B;have q:=fun t=>(d.app t).quiet 100 (ls:=[T.lc,T.lk,T.lf,T.li]) (by simp[LT.pl]);have C:lt≠T.lf:=fun e=>(Vx.1 hs.ap).1 (V1.2 ⟨T,Ve hi,by rw[e];simp[LT.pl]⟩);have G:∀b:Blk,(h.set T.lf b)[lt]?=some (.rows 5 (X.map Zn) true):=fun b=>by rw[Vc (fun e=>C e.symm)];exact hs.tb
 have O:∀b:Blk,(h.set T.lf b)[T.lf]?=some b:=fun b=>Vf w;have S:∀b:Blk,(h.set T.lf b).length=h.length:=fun b=>Vq;rw[Zbp];by_cases s:m<0
 ·rw[Vr s];simp only[go_sem,simprocAttr,f123,o,s,gL u,gL hs.tb,y,B,A,gL d.c,gL d.k,gL d.f,gL d.i,Zb,ZB,Zf,Vd,gA0 r,sA0 r,Ub,F,VN,VW,Vo,Vl,Vi]
  done
 rw[Vm s];obtain⟨j,rfl⟩:=UW (show 0≤m by omega);have lf:T.fs.length≤1000000:=by have:=E.fgn;simpa[LT.tbl]using this
 have L:=ZQ (i:=j) (n:=T.fs.length) (by omega) (by omega);have dl:=Zyv .kF (h:=h++[.cells (Zb c)]) (lc:=T.lf) (n:=T.fs.length) (m:=j) (rs:=T.fs.map ZF) (gL d.f _) (by simp) lf (by omega) (fun row M=>by obtain⟨a,_,rfl⟩:=VE.1 M;rfl)
 simp only[Kd.zz,Kd.zr,Kd.dl]at dl;rw[sL d.f]at dl;simp only[Zb,o]at dl;simp only[go_sem,simprocAttr,f123,o,s,gL u,gL hs.tb,y,B,A,gL d.c,gL d.k,gL d.f,gL d.i,Zb,ZB,Zf,Vd,gA0 r,sA0 r,Ub,F,VN,VW,Vo,Vl,Vi,L,dl,gL (G _),sL (G _),Vk]
 done
end
attribute [go_sem] Zy Zs ZH Z1 ZL Yd Z0
def Zmc(a b:List UInt8):Int:=if Op.bytesLess a b=true then -1 else if(a==b)=true then 0 else 1
theorem Zuk(a b:List UInt8):(Zmc a b<0)↔Op.bytesLess a b=true:=by
 unfold Zmc;split
 ·simp[*]
 split<;>simp[*]
theorem Zri(a:List UInt8):R K (.call 304 [.str a] [])=some (.bool false,[]):=by
 have h:(a==a)=true:=by simp
 rw[Zww];simp only[go_sem,simprocAttr,f304,h,bne]
 all_goals simp_all
theorem Zif(a b:List UInt8):R K (.call 220 [.str a,.str b] [])=some (I (Zmc a b),[]):=by
 have d:=Zri a;have e:=Zri b;unfold Zmc;cases j:Op.bytesLess a b
 ·cases h2:(a==b)
  ·rw[Zjg];simp only[go_sem,simprocAttr,f220,j,h2,d,e]
   done
  rw[Zjg];simp only[go_sem,simprocAttr,f220,j,h2,d,e]
  done
 rw[Zjg];simp only[go_sem,simprocAttr,f220,j,d,e]
 done
theorem ZAR(a b:Tbl):R K (.call 291 [Yk a,Yk b] [])=some (I (Zmc a.nm b.nm),[]):=by have h:=Zif a.nm b.nm;rw[ZtM];simp only[go_sem,simprocAttr,f291,Zc,h]
theorem ZBy(a b:Idx):R K (.call 219 [Qe a,Qe b] [])=some (I (Zmc a.nm b.nm),[]):=by have h:=Zif a.nm b.nm;rw[Zui];simp only[go_sem,simprocAttr,f219,Yq,h]
theorem ZAq(a b:Fgn):R K (.call 223 [Wm a,Wm b] [])=some (I (Zmc a.nm b.nm),[]):=by have h:=Zif a.nm b.nm;rw[ZtU];simp only[go_sem,simprocAttr,f223,Z7,h]
def Ye{α:Type}(nm:α→List UInt8)(l:List α):List α:=Zc1 (fun x y=>Op.bytesLess (nm x) (nm y)) 1 (l.length-1) l
theorem Zn5{α β:Type}(f:α→β)(lt:β→β→Bool):∀(j:Nat) (l:List α),Za5 lt j (l.map f)=(Za5 (fun x y=>lt (f x) (f y)) j l).map f
 |0,l=>rfl
 |j+1,l=>by
  unfold Za5;simp only[Vj];cases d:l[j]? with
  |none=>rfl
  |some a =>
   cases h2:l[j+1]? with
   |none=>rfl
   |some b =>
    simp only[Ue];split
    ·rw[←V9,←V9,Zn5 f lt j]
    rfl
theorem Zc4{α β:Type}(f:α→β)(lt:β→β→Bool):∀(q i:Nat) (l:List α),Zc1 lt i q (l.map f)=(Zc1 (fun x y=>lt (f x) (f y)) i q l).map f
 |0,_,l=>rfl
 |q+1,i,l=>by simp only[Zc1];rw[Zn5,Zc4 f lt q]
theorem Ju(f:α→β)(nm:β→List UInt8)(l:List α):Ye nm (l.map f)=(Ye (fun a=>nm (f a)) l).map f:=by unfold Ye;rw[Vd,Zc4]
theorem ZkK{α:Type}:∀(j:Nat) (l:List α) (a b:α),l[j]?=some a→l[j+1]?=some b→((l.set j b).set (j+1) a).Perm l
 |0,x::y::l,a,b,d,h2=>by simp only[Vt,Va,VJ]at d h2;subst d h2;exact List.Perm.swap _ _ _
 |0,[_],_,_,_,h2=>by simp at h2
 |_,[],_,_,d,_=>by simp at d
 |j+1,x::l,a,b,d,h2=>(ZkK j l a b (by simpa using d) (by simpa using h2)).cons x
theorem Zkn{α:Type}(lt:α→α→Bool):∀(j:Nat) (l:List α),(Za5 lt j l).Perm l
 |0,l=>UU l
 |j+1,l=>by
  unfold Za5;split
  ·rename_i a b d e;split
   ·exact(Zkn lt j _).trans (ZkK j l a b d e)
   exact UU l
  exact UU l
theorem ZkF{α:Type}(lt:α→α→Bool):∀(q i:Nat) (l:List α),(Zc1 lt i q l).Perm l
 |0,_,l=>UU l
 |q+1,i,l=>(ZkF lt q (i+1) _).trans (Zkn lt i l)
theorem Yn(nm:α→List UInt8)(l:List α):(Ye nm l).Perm l:=ZkF _ _ _ _
theorem Jx(nm:α→List UInt8)(l:List α):(Ye nm l).length=l.length:=(Yn nm l).length_eq
theorem Zym{nm:α→List UInt8}{l:List α}(h:Rising nm l):∀j,Za5 (fun x y=>Op.bytesLess (nm x) (nm y)) j l=l
 |0=>rfl
 |j+1=>by
  unfold Za5;split
  ·rename_i a b e k;rw[Vm fun o=>?_];obtain⟨q,r⟩:=Vb.1 e;obtain⟨h2,s⟩:=Vb.1 k;have h3:=UI.1 h j (j+1) q h2 (by omega);rw[r,s]at h3;have d:=ZlK _ _ h3;rw[o]at d;simp at d
  rfl
theorem Zna{α:Type}{nm:α→List UInt8}{l:List α}(h:Rising nm l):∀q i,Zc1 (fun x y=>Op.bytesLess (nm x) (nm y)) i q l=l
 |0,_=>rfl
 |q+1,i=>by simp only[Zc1];rw[Zym h i,Zna h q (i+1)]
theorem ZbR{nm:α→List UInt8}{l:List α}(h:Rising nm l):Ye nm l=l:=Zna h _ _
theorem ZnW:∀a b:List UInt8,Op.bytesLess a b=true→Lib.compareBytes a b<0
 |[],[],h=>by simp[Op.bytesLess]at h
 |[],_::_,_=>by simp[Lib.compareBytes]
 |_::_,[],h=>by simp[Op.bytesLess]at h
 |x::a,y::b,h=>by
  simp only[Op.bytesLess,U0,VA,VK,Up]at h;unfold Lib.compareBytes;rcases h with h|⟨rfl,h⟩
  ·rw[Vr h];omega
  have d:¬x<x:=fun h2=>by have e:=U5.1 h2;omega
  rw[Vm d,Vm d];exact ZnW a b h
theorem Zh5(a b:List UInt8):decide (Lib.compareBytes a b<0)=Op.bytesLess a b:=by rw[UE,decide_eq_true_iff];exact⟨ZnV a b,ZnW a b⟩
theorem ZfJ(a b:List UInt8):decide (Zmc a b<0)=Op.bytesLess a b:=by rw[UE,decide_eq_true_iff];exact Zuk a b
theorem ZBH(a b:Tbl):R K (.call 75 [Yk a,Yk b] [])=some (I (Lib.compareBytes a.nm b.nm),[]):=by have h:R K (.call 76 [.str a.nm,.str b.nm] [])=some (.int .i64 (Lib.compareBytes a.nm b.nm),[]):=Qn rfl;rw[Zx6];simp only[go_sem,simprocAttr,f75,Zc,h]
theorem ZBP(a b:Fgn):R K (.call 78 [Wm a,Wm b] [])=some (I (Lib.compareBytes a.nm b.nm),[]):=by have h:R K (.call 76 [.str a.nm,.str b.nm] [])=some (.int .i64 (Lib.compareBytes a.nm b.nm),[]):=Qn rfl;rw[Zyq];simp only[go_sem,simprocAttr,f78,Z7,h]
theorem ZA6(a b:Idx):R K (.call 80 [Qe a,Qe b] [])=some (I (Lib.compareBytes a.nm b.nm),[]):=by have h:R K (.call 76 [.str a.nm,.str b.nm] [])=some (.int .i64 (Lib.compareBytes a.nm b.nm),[]):=Qn rfl;rw[Zy9];simp only[go_sem,simprocAttr,f80,Yq,h]
theorem Xq{m:Za}{a:AV}:∀{cs:List AV},a∈cs→ZI m a=none→ZE m cs=none
 |[],h,_=>by simp at h
 |c::cs,h,e=>by
  rcases Vn.1 h with rfl|h
  ·simp only[ZE,e]
  have d:=Xq h e;simp only[ZE];cases ZI m c with
  |none=>rfl
  |some b=>simp only[d]
theorem Zb0(h:m[l]?=some (.rows z rs true)):ZI m (.own l n)=none:=by simp[ZI,h]
theorem ZaM(d:K.shut.nlA g=(false,1))(j:ZE m args=none)(hs:Zy 8 m args=some pure)(k:R K (.call g pure [])=some (I v,[])):ZU K.shut.nlA (R K) m args (.fn g [])=some (I v,m):=by have e:Zdy false m args=none:=j;have f:Zin ([]:Za)=true:=rfl;simp only[ZU,d,Vv,e,Wi,ZjC,W4,hs,k,Wa,f,V7,Z4,Zhz,ren,back,VO,Pd];simp
theorem Zjo(d:K.shut.nlA g=(false,1))(j:ZE m args=some pure)(k:R K (.call g pure [])=some (I v,[])):ZU K.shut.nlA (R K) m args (.fn g [])=some (I v,m):=by have e:Zdy false m args=some pure:=j;simp only[ZU,d,Vv,e,Wi,k,Wt]
theorem Zzi{ra rb:List AV}{a b:Idx}(d:SeenI m ra a)(e:SeenI m rb b):Zy 8 m [.agg ra,.agg rb]=some [Qe a,Qe b]:=by obtain⟨x,rfl,j⟩:=d;obtain⟨y,rfl,k⟩:=e;have o:=j.names (f:=Zy 7 m);have q:=k.names (f:=Zy 7 m);show Zs (Zy 7 m) m _=_;simp only[Zs,ZH,o,q,Yq,Qe]
theorem ZoH{a:LI}(h:∀q,a.l=some q→m[q]?=some (.rows 1 (SLs a.x.cols) true)):(a.l=none∧ZI m (.agg (ZJ a))=some (Qe a.x))∨ZI m (.agg (ZJ a))=none:=by
 cases e:a.l with
 |none =>
  left;simp[ZJ,Yc,e,ZI,ZE,Qe,Yq]
 |some q =>
  right;have:=h q e;simp[ZJ,Yc,e,ZI,ZE,this]
theorem w_I{a b:LI}(d:K.shut.nlA g=(false,1))(e:R K (.call g [Qe a.x,Qe b.x] [])=some (I v,[]))(k:∀q,a.l=some q→m[q]?=some (.rows 1 (SLs a.x.cols) true))(o:∀q,b.l=some q→m[q]?=some (.rows 1 (SLs b.x.cols) true)):
  ZU K.shut.nlA (R K) m [.agg (ZJ a),.agg (ZJ b)] (.fn g [])=some (I v,m):=by
 have r:=Zzi (m:=m) (ra:=ZJ a) (rb:=ZJ b) (a:=a.x) (b:=b.x) ⟨_,rfl,YG k⟩ ⟨_,rfl,YG o⟩;rcases ZoH k with⟨_,j⟩|j
 ·rcases ZoH o with⟨_,h2⟩|h2
  ·exact Zjo d (by simp only[ZE,j,h2]) e
  exact ZaM d (Xq (a:=.agg (ZJ b)) (by simp) h2) r e
 exact ZaM d (Xq (a:=.agg (ZJ a)) (by simp) j) r e
theorem Zx0{ra rb:List AV}{a b:Fgn}(d:SeenF m ra a)(e:SeenF m rb b):Zy 8 m [.agg ra,.agg rb]=some [Wm a,Wm b]:=by obtain⟨x,rfl,j⟩:=d;obtain⟨y,rfl,k⟩:=e;have o:=j.names (f:=Zy 7 m);have q:=k.names (f:=Zy 7 m);show Zs (Zy 7 m) m _=_;simp only[Zs,ZH,o,q,Z7,Wm]
theorem Znu{a:LF}(h:∀q,a.l=some q→m[q]?=some (.rows 1 (SLs a.f.cols) true)):(a.l=none∧ZI m (.agg (ZF a))=some (Wm a.f))∨ZI m (.agg (ZF a))=none:=by
 cases e:a.l with
 |none =>
  left;simp[ZF,Yc,e,ZI,ZE,Wm,Z7]
 |some q =>
  right;have:=h q e;simp[ZF,Yc,e,ZI,ZE,this]
theorem w_F{a b:LF}(d:K.shut.nlA g=(false,1))(e:R K (.call g [Wm a.f,Wm b.f] [])=some (I v,[]))(k:∀q,a.l=some q→m[q]?=some (.rows 1 (SLs a.f.cols) true))(o:∀q,b.l=some q→m[q]?=some (.rows 1 (SLs b.f.cols) true)):
  ZU K.shut.nlA (R K) m [.agg (ZF a),.agg (ZF b)] (.fn g [])=some (I v,m):=by
 have r:=Zx0 (m:=m) (ra:=ZF a) (rb:=ZF b) (a:=a.f) (b:=b.f) ⟨_,rfl,YG k⟩ ⟨_,rfl,YG o⟩;rcases Znu k with⟨_,j⟩|j
 ·rcases Znu o with⟨_,h2⟩|h2
  ·exact Zjo d (by simp only[ZE,j,h2]) e
  exact ZaM d (Xq (a:=.agg (ZF b)) (by simp) h2) r e
 exact ZaM d (Xq (a:=.agg (ZF a)) (by simp) j) r e
theorem ZdV{nm:α→List UInt8}{l:List α}(h:∀i,i<l.length→Q9 (nmA (l.map nm) i) (JQ (l.map nm) i) (i==0)=0):Rising nm l:=by refine UI.2 fun i j hi e d=>?_;have:=Zca (l:=l.map nm) (by simpa using h) i j d (by simpa using e);simpa[nmA,hi,e]using this
theorem Zve{n:List UInt8}:∀(l:List (List UInt8)) (i s:Nat),l[i]?=some n→ixN n l s≤((s+i:Nat):Int)
 |[],i,s,h=>by simp at h
 |m::l,0,s,h=>by simp only[Vt,Va]at h;subst h;simp[ixN]
 |m::l,i+1,s,h=>by
  unfold ixN;split
  ·omega
  have:=Zve l i (s+1) (by simpa using h);omega
structure RsT(t:Tbl):Prop where
 fg:Rising (fun f:Fgn=>f.nm) t.fgn
 ix:Rising (fun f:Idx=>f.nm) t.idx
 co:∀(i j:Nat) (a b:Col),t.cols[i]?=some a→t.cols[j]?=some b→a.nm=b.nm→i=j
structure RsX(x:List Tbl):Prop where
 nm:Rising (fun t:Tbl=>t.nm) x
 tb:∀t∈x,RsT t
theorem ZrU{t:Tbl}(u:x[i]?=some t)(h:XA x i=0):RsT t:=by
 unfold XA at h;rw[u]at h;simp only at h;obtain⟨_,h2⟩:=ZcG h;split at h2
 ·simp at h2
 have h3:=XB 4 0 h2;have q:=h3 0 (by omega) (by omega);have r:=h3 2 (by omega) (by omega);have s:=h3 3 (by omega) (by omega);simp only[ZaT]at q r s;refine⟨ZdV fun j d=>?_,ZdV fun j d=>?_,?_⟩
 ·have:=XB _ 0 r j (by omega) (by omega);unfold Zcb at this;rw[VB d]at this;have:=(ZcG this).1;simpa[nmA,d]using this
 ·have:=XB _ 0 s j (by omega) (by omega);unfold Zbf at this;rw[VB d]at this;have:=(ZcG this).1;simpa[nmA,d]using this
 have key:∀(i j:Nat) (a b:Col),t.cols[i]?=some a→t.cols[j]?=some b→a.nm=b.nm→¬i<j:=fun i j a b o k e w=>by
  have d:=(Vb.1 k).1;have:=XB _ 0 q j (by omega) (by omega);unfold Zf6 at this;rw[k]at this;simp only at this;have y:=Zve (n:=b.nm) (t.cols.map (·.nm)) i 0 (by rw[Vj,o,←e];rfl);split at this
  ·simp at this
  rw[Vr (by omega)]at this;simp at this
 intro i j a b o k e;rcases PK i j with h|h|h
 ·exact absurd h (key i j a b o k e)
 ·exact h
 exact absurd h (key j i b a k o e.symm)
theorem W5(h:X8 x=0):RsX x:=by
 unfold X8 at h;split at h
 ·simp at h
 have d:=XB 2 0 h 0 (by omega) (by omega);simp only[Zg4]at d;refine⟨ZdV fun i hi=>(Zbn d).1 i hi,fun t e=>?_⟩;obtain⟨i,hi⟩:=Uf.1 e;have j:=(Vb.1 hi).1;exact ZrU hi (XB _ 0 d i (by omega) (by omega))
theorem ZaC{n:List UInt8}:∀(l:List (List UInt8)) (s j:Nat),ixN n l s=((s+j:Nat):Int)→l[j]?=some n
 |[],s,j,h=>by simp[ixN]at h;omega
 |m::l,s,j,h=>by
  unfold ixN at h;split at h
  ·rename_i e;have:j=0:=by omega
   subst this;simp[e]
  cases j with
  |zero =>
   have:∀(l:List (List UInt8)) (s:Nat),ixN n l s<0∨(s:Int)≤ixN n l s:=fun l=>by
    induction l with
    |nil=>intro s;left;simp[ixN]
    |cons a l d =>
     intro s;unfold ixN;split
     ·right;omega
     rcases d (s+1)with h|h
     ·exact .inl h
     right;omega
   rcases this l (s+1)with h'|h'<;>omega
  |succ j =>
   have:=ZaC l (s+1) j (by rw[h];omega);simpa using this
theorem Q5(n:List UInt8)(l:List (List UInt8)):ixN n l 0<0∨∃j:Nat,ixN n l 0=(j:Int)∧l[j]?=some n:=by
 by_cases h:ixN n l 0<0
 ·exact .inl h
 obtain⟨j,d⟩:=UW (show 0≤ixN n l 0 by omega);exact .inr ⟨j,d,ZaC l 0 j (by rw[d];simp)⟩
theorem ZuY(t:Tbl)(r:List Tbl)(d:(t::r).length≤1000)(hs:∀u∈t::r,SmT u){q:Nat}(e:3+(Yz 3 t).length=q):
  R K (.call 67 [ZX (t::r)] [])=some (.agg [.own q (1+r.length)],
   .cells [.rows ((t::r).map Zc)]::.cells [.own q (1+r.length)]::.cells [.own q (1+r.length)]::(Yz 3 t++.rows 5 (([WB 3 t]++XC (q+1) r).map Zn) true::([]++Wv (q+1) r))):=by
 have F:=fun(ks:List It) Bo hB=>ZCz (ks:=ks) (N:=3) rfl d hs t rfl Bo hB;have L:=fun(ks:List It) Bo hB=>ZAa (ks:=ks) d hs (P:=Yz 3 t) e r 1 [] [WB 3 t] (q+1) 1 Bo 1 hB rfl (by simp) (by simp) rfl rfl rfl;rw[e]at F;rw[show([WB 3 t].map Zn)=[WA 3 t]by rw[Vz,VO,Y4]]at L;generalize j:t::r=x at *;rw[ZyP];simp only[go_sem,simprocAttr,f67];rw[F _ _ ?_]
 rotate_left
 ·rfl
 rw[L _ _ ?_]
 rotate_left
 ·rfl
 simp only[go_sem,simprocAttr]
 done
theorem ZtV{fg:List Fgn}{a:LF}(h:a∈Qc p fg fg.length):∃k,fg[k]?=some a.f∧a.l=some (p+k):=by
 obtain⟨k,d⟩:=Uf.1 h;have e:k<fg.length:=by
  have:=(Vb.1 d).1
  rwa [Jo]at this
 obtain⟨f,j⟩:=Zu (l:=fg) (i:=k) e;rw[Zap j,Vr e]at d;simp only[Va]at d;subst d;exact⟨k,j,rfl⟩
theorem ZvK{fg:List Idx}{a:LI}(h:a∈Qm p fg fg.length):∃k,fg[k]?=some a.x∧a.l=some (p+k):=by
 obtain⟨k,d⟩:=Uf.1 h;have e:k<fg.length:=by
  have:=(Vb.1 d).1
  rwa [Jm]at this
 obtain⟨f,j⟩:=Zu (l:=fg) (i:=k) e;rw[ZaL j,Vr e]at d;simp only[Va]at d;subst d;exact⟨k,j,rfl⟩
theorem Zhg(t:Tbl)(post:Za)(d:pre.length=n):HT (pre++(Yz n t++post)) (WB n t):=by
 refine⟨gA d _ 1,gA d _ 2,gA d _ 3,gA d _ 4,fun a o l e=>?_,fun a o l e=>?_⟩
 ·obtain⟨k,j,h2⟩:=ZtV o;rw[h2]at e;cases e;have q:=(Vb.1 j).1;rw[show n+5+k=n+(5+k)by omega,gA d,Vh (by rw[Y0];omega)];unfold Yz;rw[show 5+k=k+1+1+1+1+1 by omega];simp only[VJ];rw[Vh (by simpa using q),Vj,j];rfl
 obtain⟨k,j,h2⟩:=ZvK o;rw[h2]at e;cases e;have q:=(Vb.1 j).1;rw[show n+5+t.fgn.length+k=n+(5+(t.fgn.length+k))by omega,gA d,Vh (by rw[Y0];omega)];unfold Yz;rw[show 5+(t.fgn.length+k)=(t.fgn.length+k)+1+1+1+1+1 by omega];simp only[VJ];rw[Vy (by simp),Vd,Uw,Vh (by simpa using q),Vj,j];rfl
theorem Zqb:∀(x:List Tbl) (n:Nat) (pre post:Za),pre.length=n→∀T∈XC n x,HT (pre++(Wv n x++post)) T
 |[],_,_,_,_,T,h=>by simp[XC]at h
 |t::x,n,pre,post,d,T,h=>by
  simp only[XC,Vn]at h;simp only[Wv,Vo];rcases h with rfl|h
  ·exact Zhg t _ d
  have:=Zqb x (n+(Yz n t).length) (pre++Yz n t) post (by simp[d]) T h
  rwa [Vo]at this
theorem ZwH(p b:Nat):∀(fg:List Fgn) (s:Nat),s+fg.length≤b→((fg.zipIdx s).map fun a=>(⟨a.1,if a.2<b then some (p+a.2)else none⟩:LF)).filterMap (·.l)=List.range' (p+s) fg.length
 |[],s,_=>rfl
 |f::fg,s,h=>by
  have d:=ZwH p b fg (s+1) (by simp at h;omega);have hs:s<b:=by simp at h;omega
  simp only[PN,Vz,hs,V7,VC,Sl];simp only[List.filterMap_cons];rw[d,UL]
theorem ZvR(p b:Nat):∀(fg:List Idx) (s:Nat),s+fg.length≤b→((fg.zipIdx s).map fun a=>(⟨a.1,if a.2<b then some (p+a.2)else none⟩:LI)).filterMap (·.l)=List.range' (p+s) fg.length
 |[],s,_=>rfl
 |f::fg,s,h=>by
  have d:=ZvR p b fg (s+1) (by simp at h;omega);have hs:s<b:=by simp at h;omega
  simp only[PN,Vz,hs,V7,VC,Sl];simp only[List.filterMap_cons];rw[d,UL]
theorem Qh(n:Nat)(t:Tbl):(WB n t).pl=List.range' (n+1) (4+(t.fgn.length+t.idx.length)):=by have j:=ZwH (n+5) t.fgn.length t.fgn 0 (by omega);have k:=ZvR (n+5+t.fgn.length) t.idx.length t.idx 0 (by omega);have d:(Qc (n+5) t.fgn t.fgn.length).filterMap (·.l)=List.range' (n+5) t.fgn.length:=j;have e:(Qm (n+5+t.fgn.length) t.idx t.idx.length).filterMap (·.l)=List.range' (n+5+t.fgn.length) t.idx.length:=k;show(n+1)::(n+2)::(n+3)::(n+4)::((Qc (n+5) t.fgn t.fgn.length).filterMap (·.l)++(Qm (n+5+t.fgn.length) t.idx t.idx.length).filterMap (·.l))=_;rw[d,e,List.range'_append_1,show 4+(t.fgn.length+t.idx.length)=(t.fgn.length+t.idx.length)+1+1+1+1 by omega];simp only[Sl]
theorem ZfO:∀(x:List Tbl) (n:Nat),((XC n x).flatMap LT.pl).Nodup∧∀l∈(XC n x).flatMap LT.pl,n<l∧l<n+(Wv n x).length
 |[],n=>by simp[XC]
 |t::x,n=>by
  obtain⟨i1,i2⟩:=ZfO x (n+(Yz n t).length);have k:∀l∈(WB n t).pl,n<l∧l<n+(Yz n t).length:=fun l d=>by rw[Qh,U3]at d;rw[Y0];omega
  simp only[XC,Wv,US,Vu];refine⟨VY.2 ⟨?_,i1,fun a o b j e=>?_⟩,fun l d=>?_⟩
  ·rw[Qh];exact Pn
  ·have:=k a o;have:=i2 b j;omega
  rcases Vg.1 d with d|d
  ·have:=k l d;omega
  have:=i2 l d;omega
theorem WR(m i:Nat):ZO [] m i=m+i:=by simp[ZO]
theorem Zi5{α:Type}(σ:Nat→Nat)(f:α→List AV):∀l:List α,XN σ (l.map f)=l.map fun a=>Xl σ (f a)
 |[]=>rfl
 |a::l=>by simp only[Vz,XN,Zi5 σ f l]
theorem ZjS{σ:Nat→Nat}(h:ZA b=[]):YY σ b=b:=ZeO b fun x d=>by rw[h]at d;simp at d
theorem Zp7(m p k:Nat)(fg:List Fgn):XN (ZO [] m) ((Qc p fg k).map ZF)=(Qc (m+p) fg k).map ZF:=by
 unfold Qc;rw[V8,V8,Zi5];refine Ul fun a _=>?_;by_cases h:a.2<k
 ·simp[ZF,Yc,h,Xl,ren,WR,UL]
 simp[ZF,Yc,h,Xl,ren]
theorem Zpc(m p k:Nat)(fg:List Idx):XN (ZO [] m) ((Qm p fg k).map ZJ)=(Qm (m+p) fg k).map ZJ:=by
 unfold Qm;rw[V8,V8,Zi5];refine Ul fun a _=>?_;by_cases h:a.2<k
 ·simp[ZJ,Yc,h,Xl,ren,WR,UL]
 simp[ZJ,Yc,h,Xl,ren]
theorem Zat(m n:Nat)(t:Tbl):Xl (ZO [] m) (WA n t)=WA (m+n) t:=by simp[WA,Xl,ren,WR,UL]
theorem ZdQ(m n:Nat)(t:Tbl):(Yz n t).map (YY (ZO [] m))=Yz (m+n) t:=by
 have e:YY (ZO [] m) (.cells (WA n t))=.cells (WA (m+n) t):=by simp only[YY,Zat]
 have j:YY (ZO [] m) (.rows 6 (t.cols.map Zh) true)=.rows 6 (t.cols.map Zh) true:=ZjS (by simp[ZA,Zw]);have d:∀l:List (List UInt8),YY (ZO [] m) (.rows 1 (SLs l) true)=.rows 1 (SLs l) true:=fun l=>ZjS (by simp[ZA,Zv]);have k:YY (ZO [] m) (.rows 3 ((Qc (n+5) t.fgn t.fgn.length).map ZF) true)=.rows 3 ((Qc (m+n+5) t.fgn t.fgn.length).map ZF) true:=by simp only[YY,Zp7,UL]
 have o:YY (ZO [] m) (.rows 3 ((Qm (n+5+t.fgn.length) t.idx t.idx.length).map ZJ) true)=.rows 3 ((Qm (m+n+5+t.fgn.length) t.idx t.idx.length).map ZJ) true:=by simp only[YY,Zpc,UL]
 have q:YY (ZO [] m) (.rows 5 [WA n t] false)=.rows 5 [WA (m+n) t] false:=by simp only[YY,XN,Zat]
 unfold Yz;simp only[Vz,Ua,V8,VO,e,j,d,k,o,q];congr 6
 ·refine Ul fun a _=>d _
 congr 1;refine Ul fun a _=>d _
theorem Xb(m:Nat):∀(x:List Tbl) (n:Nat),(Wv n x).map (YY (ZO [] m))=Wv (m+n) x
 |[],_=>rfl
 |t::x,n=>by
  have e:(Yz (m+n) t).length=(Yz n t).length:=by rw[Y0,Y0]
  simp only[Wv,Ua,ZdQ,Xb m x,e,UL]
theorem Xd(m:Nat):∀(x:List Tbl) (n:Nat),XN (ZO [] m) ((XC n x).map Zn)=(XC (m+n) x).map Zn
 |[],_=>rfl
 |t::x,n=>by
  have e:(Yz (m+n) t).length=(Yz n t).length:=by rw[Y0,Y0]
  simp only[XC,Vz,XN,Y4,Zat,Xd m x,e,UL]
theorem ZeP(n:Nat)(t:Tbl):(WB n t).tbl=t:=by
 have d:(Qc (n+5) t.fgn t.fgn.length).map (·.f)=t.fgn:=by unfold Qc;rw[V8];exact List.zipIdx_map_fst 0 t.fgn
 have e:(Qm (n+5+t.fgn.length) t.idx t.idx.length).map (·.x)=t.idx:=by unfold Qm;rw[V8];exact List.zipIdx_map_fst 0 t.idx
 simp only[LT.tbl,WB,d,e]
theorem Yw:∀(x:List Tbl) (n:Nat),(XC n x).map LT.tbl=x
 |[],_=>rfl
 |t::x,n=>by simp only[XC,Vz,ZeP,Yw x]
theorem XR(x:List Tbl)(n:Nat):(XC n x).length=x.length:=by have:=congrArg List.length (Yw x n);simpa using this
theorem ZuJ{t:Tbl}(h:x[i]?=some t):∃T,(XC n x)[i]?=some T∧T.tbl=t:=by have e:=(Vb.1 h).1;obtain⟨T,d⟩:=Zu (l:=XC n x) (i:=i) (by rw[XR];exact e);refine⟨T,d,?_⟩;have:=congrArg (·[i]?) (Yw x n);simp only[Vj,d,h,Ue,Va]at this;exact this
theorem Zrs{post:Za}(d:pre.length=n)(e:lt<n)(j:pre[lt]?=some (.rows 5 ((XC n x).map Zn) true)):SchAt (pre++(Wv n x++post)) lt (XC n x):=by obtain⟨k,o⟩:=ZfO x n;refine⟨gL j _,Zqb x n pre post d,Vx.2 ⟨fun q=>?_,k⟩⟩;have:=(o _ q).1;omega
theorem ZfE:∀(x:List Tbl) (n:Nat),(∀l∈Zk (Wv n x),n<l∧l<n+(Wv n x).length)∧∀b∈Wv n x,eqB (some b) (some b)=true
 |[],n=>by simp[Wv,Zk]
 |t::x,n=>by
  obtain⟨i1,i2⟩:=ZfE x (n+(Yz n t).length);have s:∀l∈(WB n t).pl,n<l∧l<n+(Yz n t).length:=fun l o=>by rw[Qh,U3]at o;rw[Y0];omega
  have w:∀l∈Zg (WA n t),l∈(WB n t).pl:=fun l o=>by simp only[WA,Zg,locs,Vi,Vv,Ud,Vn,V3,UR]at o;rw[Qh,U3];omega
  have A:∀l∈Zk (Yz n t),l∈(WB n t).pl:=fun l o=>by
   obtain⟨b,s,d⟩:∃b∈Yz n t,l∈ZA b:=by
    have key:∀{h:Za},l∈Zk h→∃b∈h,l∈ZA b:=fun{h}=>by
     induction h with
     |nil=>intro e;simp[Zk]at e
     |cons b h B =>
      intro e;rcases Vg.1 (show l∈ZA b++Zk h from e)with e|e
      ·exact⟨b,VV,e⟩
      obtain⟨b',C,h2⟩:=B e;exact⟨b',VD _ C,h2⟩
    exact key o
   simp only[Yz,Vn,Vg,VE,V3,UR]at s;rcases s with rfl|rfl|rfl|rfl|rfl|⟨f,_,rfl⟩|⟨f,_,rfl⟩|rfl
   ·exact w l d
   ·simp[ZA,Zw]at d
   ·simp[ZA,Zv]at d
   ·obtain⟨row,r,d⟩:=Yy (show l∈Zz _ from d);obtain⟨a,u,rfl⟩:=VE.1 r;cases j:a.l with
    |none=>simp[ZF,Yc,j,Zg,locs]at d
    |some q =>
     simp[ZF,Yc,j,Zg,locs]at d;subst d;simp only[LT.pl,WB,Vn,Vg,VG];exact .inr (.inr (.inr (.inr (.inl ⟨a,u,j⟩))))
   ·obtain⟨row,r,d⟩:=Yy (show l∈Zz _ from d);obtain⟨a,u,rfl⟩:=VE.1 r;cases j:a.l with
    |none=>simp[ZJ,Yc,j,Zg,locs]at d
    |some q =>
     simp[ZJ,Yc,j,Zg,locs]at d;subst d;simp only[LT.pl,WB,Vn,Vg,VG];exact .inr (.inr (.inr (.inr (.inr ⟨a,u,j⟩))))
   ·simp[ZA,Zv]at d
   ·simp[ZA,Zv]at d
   obtain⟨row,r,d⟩:=Yy (show l∈Zz _ from d);rw[VH]at r;subst r;exact w l d
  refine⟨fun l o=>?_,fun b k=>?_⟩
  ·rw[Wv,ZR]at o;rw[Wv,Vu];rcases Vg.1 o with o|o
   ·have:=s l (A l o);omega
   have:=i1 l o;omega
  rw[Wv]at k;rcases Vg.1 k with k|k
  ·simp only[Yz,Vn,Vg,VE,V3,UR]at k;have y:eqL (WA n t) (WA n t)=true:=by simp[WA,eqL,eqA]
   rcases k with rfl|rfl|rfl|rfl|rfl|⟨f,_,rfl⟩|⟨f,_,rfl⟩|rfl
   ·simpa[eqB]using y
   ·simp[eqB,Zak]
   ·simp[eqB,XU]
   ·simp[eqB,Zi1]
   ·simp[eqB,Zig]
   ·simp[eqB,XU]
   ·simp[eqB,XU]
   simp[eqB,eqR,y]
  exact i2 b k
theorem Shut.mk'{h:Za}(e:∀l∈Zk h,l<h.length)(h2:∀b∈h,eqB (some b) (some b)=true):Shut h :=
 ⟨Zt.2 e,fun l d=>by rw[VB d];exact h2 _ (List.getElem_mem d)⟩
attribute [-go_sem] Zy Zs ZH Z1 ZL Yd Z0 ZN
structure WL(h:Za)(z:Nat)(a:AV)(l:Nat)(rs D:List (List AV)):Prop where
 at':h[l]?=some (.rows z (rs++D) true)
 is':(D=[]∧a=.own l rs.length)∨a=.vw l (rs++D).length 0 rs.length
theorem WL.own{h:Za}(e:h[l]?=some (.rows z rs true))(d:rs.length=n):WL h z (.own l n) l rs []:=⟨by rw[Vv];exact e,.inl ⟨rfl,by rw[d]⟩⟩
theorem WL.lst(s:WL h z a l rs D):Lst h a rs:=by
 rcases s.is' with⟨rfl,rfl⟩|rfl
 ·have:=s.at';rw[Vv]at this;exact .own l z _ _ true this rfl
 exact .vw l z _ _ _ _ true s.at' rfl rfl
theorem WL.locs(s:WL h z a l rs D):locs a=[l]:=by rcases s.is' with⟨rfl,rfl⟩|rfl<;>rfl
theorem WL.single(s:WL h z a l rs D):single a=true:=by rcases s.is' with⟨rfl,rfl⟩|rfl<;>rfl
theorem WL.frame{h:Za}(s:WL h z a l rs D)(e:h'[l]?=h[l]?):WL h' z a l rs D:=⟨e.trans s.at',s.is'⟩
def Dead(D:List (List AV)):Prop:=Zz D=[]∧eqR D D=true
theorem Dead.nil:Dead []:=⟨rfl,by simp[eqR]⟩
def CL(h:Za)(a:AV)(p:List Nat)(cols:List Col):Prop:=(p=[]∧a=.rows (cols.map Zh))∨∃l D,p=[l]∧Dead D∧WL h 6 a l (cols.map Zh) D
theorem CL.lst{h:Za}{a:AV}{p:List Nat}{cols:List Col}(s:CL h a p cols):Lst h a (cols.map Zh):=by
 rcases s with⟨_,rfl⟩|⟨l,D,_,_,w⟩
 ·exact .rows _ (Zw cols) (Zc2 cols)
 exact w.lst
theorem CL.single{h:Za}{a:AV}{p:List Nat}{cols:List Col}(s:CL h a p cols):single a=true:=by
 rcases s with⟨_,rfl⟩|⟨l,D,_,_,w⟩
 ·rfl
 exact w.single
theorem CL.locs{h:Za}{a:AV}{p:List Nat}{cols:List Col}(s:CL h a p cols):locs a=p:=by
 rcases s with⟨rfl,rfl⟩|⟨l,D,rfl,_,w⟩
 ·simp[Go.Ab.locs]
 exact w.locs
structure LW where
 nm:List UInt8
 ca:AV
 pc:List Nat
 cols:List Col
 lk:Nat
 key:List (List UInt8)
 fa:AV
 lf:Nat
 fs:List LF
 df:List (List AV)
 ia:AV
 li:Nat
 is:List LI
 di:List (List AV)
def ZZ(t:LW):List AV:=[.str t.nm,t.ca,.own t.lk t.key.length,t.fa,t.ia]
def LW.tbl(t:LW):Tbl:=⟨t.nm,t.cols,t.key,t.fs.map (·.f),t.is.map (·.x)⟩
def LW.pl(t:LW):List Nat:=t.pc++(t.lk::t.lf::t.li::(t.fs.filterMap (·.l)++t.is.filterMap (·.l)))
structure HW(h:Za)(t:LW):Prop where
 c:CL h t.ca t.pc t.cols
 k:h[t.lk]?=some (.rows 1 (SLs t.key) true)
 f:WL h 3 t.fa t.lf (t.fs.map ZF) t.df
 i:WL h 3 t.ia t.li (t.is.map ZJ) t.di
 fc:∀a∈t.fs,∀l,a.l=some l→h[l]?=some (.rows 1 (SLs a.f.cols) true)
 ic:∀a∈t.is,∀l,a.l=some l→h[l]?=some (.rows 1 (SLs a.x.cols) true)
 df:Dead t.df
 di:Dead t.di
variable{t:LW}{W:List LW}
theorem LW.mf{a:LF}(d:a∈t.fs)(e:a.l=some l):l∈t.pl:=by simp only[LW.pl,Vg,Vn,VG];exact .inr (.inr (.inr (.inr (.inl ⟨a,d,e⟩))))
theorem LW.mi{a:LI}(d:a∈t.is)(e:a.l=some l):l∈t.pl:=by simp only[LW.pl,Vg,Vn,VG];exact .inr (.inr (.inr (.inr (.inr ⟨a,d,e⟩))))
theorem LW.mlk(t:LW):t.lk∈t.pl:=by simp[LW.pl]
theorem LW.mlf(t:LW):t.lf∈t.pl:=by simp[LW.pl]
theorem LW.mli(t:LW):t.li∈t.pl:=by simp[LW.pl]
theorem LW.mpc(h:l∈t.pc):l∈t.pl:=by simp[LW.pl,h]
theorem CL.frame{h h':Za}{a:AV}{p:List Nat}{cols:List Col}(s:CL h a p cols)(e:∀l∈p,h'[l]?=h[l]?):CL h' a p cols:=by
 rcases s with j|⟨l,D,rfl,d,w⟩
 ·exact .inl j
 exact .inr ⟨l,D,rfl,d,w.frame (e l (by simp))⟩
theorem HW.frame{h h':Za}{t:LW}(s:HW h t)(e:∀l∈t.pl,h'[l]?=h[l]?):HW h' t :=
 ⟨s.c.frame fun l d=>e l (LW.mpc d),(e _ t.mlk).trans s.k,s.f.frame (e _ t.mlf),s.i.frame (e _ t.mli),fun a j l d=>(e l (LW.mf j d)).trans (s.fc a j l d),fun a j l d=>(e l (LW.mi j d)).trans (s.ic a j l d),s.df,s.di⟩
theorem HW.set{h:Za}(s:HW h t)(d:l∉t.pl)(b:Blk):HW (h.set l b) t:=s.frame fun i hi=>Vc fun e=>by subst e;exact d hi
theorem HW.fgn(s:HW h t):Both (SeenF h) (t.fs.map ZF) (t.fs.map (·.f)):=Both.map fun a d=>⟨_,rfl,YG (s.fc a d)⟩
theorem HW.idx(s:HW h t):Both (SeenI h) (t.is.map ZJ) (t.is.map (·.x)):=Both.map fun a d=>⟨_,rfl,YG (s.ic a d)⟩
theorem HW.seen(s:HW h t):SeenT h (ZZ t) t.tbl :=
 ⟨_,_,_,_,_,_,rfl,s.c.lst,.own _ 1 _ _ true s.k (Yh _),⟨s.f.lst,s.fgn⟩,s.i.lst,s.idx⟩
theorem HW.singles{h:Za}{t:LW}(s:HW h t):singles (ZZ t)=true:=by
 simp only[ZZ,Go.Ab.singles,s.c.single,s.f.single,s.i.single];rfl
theorem HW.locs{h:Za}{t:LW}(s:HW h t):Zg (ZZ t)=t.pc++[t.lk,t.lf,t.li]:=by simp[ZZ,Zg,s.c.locs,s.f.locs,s.i.locs,Go.Ab.locs]
theorem HW.locs_pl{h:Za}(s:HW h t)(d:l∈Zg (ZZ t)):l∈t.pl:=by
 rw[s.locs]at d;rcases Vg.1 d with d|d
 ·exact LW.mpc d
 simp only[Vn,V3,UR]at d;rcases d with rfl|rfl|rfl
 ·exact t.mlk
 ·exact t.mlf
 exact t.mli
theorem HW.pur(s:HW h t):ZE h (ZZ t)=none:=Xq (a:=.own t.lk t.key.length) (by simp[ZZ]) (Zb0 s.k)
theorem Zhl:∀{a b:List (List AV)},eqR a a=true→eqR b b=true→eqR (a++b) (a++b)=true
 |[],_,_,d=>d
 |x::a,b,e,d=>by simp only[eqR,VA]at e;simp only[Vl,eqR,e.1,Zhl e.2 d,Pc]
theorem Zaw{fs:List LF}{x:Nat}(h:x∈Zz (fs.map ZF)):∃a∈fs,a.l=some x:=by
 obtain⟨row,j,e⟩:=Yy h;obtain⟨a,k,rfl⟩:=VE.1 j;cases d:a.l with
 |none=>simp[ZF,Yc,d,Zg,locs]at e
 |some l =>
  simp[ZF,Yc,d,Zg,locs]at e;subst e;exact⟨a,k,d⟩
theorem ZcU{fs:List LI}{x:Nat}(h:x∈Zz (fs.map ZJ)):∃a∈fs,a.l=some x:=by
 obtain⟨row,j,e⟩:=Yy h;obtain⟨a,k,rfl⟩:=VE.1 j;cases d:a.l with
 |none=>simp[ZJ,Yc,d,Zg,locs]at e
 |some l =>
  simp[ZJ,Yc,d,Zg,locs]at e;subst e;exact⟨a,k,d⟩
theorem HW.at'{h:Za}{t:LW}(s:HW h t){l:Nat}(r:l∈t.pl):∃b,h[l]?=some b∧eqB h[l]? h[l]?=true∧∀x∈ZA b,x∈t.pl:=by
 have o:∀{b:Blk},h[l]?=some b→(eqB (some b) (some b)=true∧∀x∈ZA b,x∈t.pl)→∃b,h[l]?=some b∧eqB h[l]? h[l]?=true∧∀x∈ZA b,x∈t.pl:=fun{b} e q=>⟨b,e,by rw[e];exact q.1,q.2⟩;simp only[LW.pl,Vg,Vn,VG]at r;rcases r with r|rfl|rfl|rfl|⟨a,u,e⟩|⟨a,u,e⟩
 ·rcases s.c with⟨e,_⟩|⟨l',D,e,d,w⟩
  ·rw[e]at r;simp at r
  rw[e,VH]at r;subst r;refine o w.at' ⟨by simp[eqB,Zhl (Zak _) d.2],fun x j=>?_⟩;rw[ZA,Xg,Zw,d.1]at j;simp at j
 ·exact o s.k ⟨by simp[eqB,XU],fun x j=>by simp[ZA,Zv]at j⟩
 ·refine o s.f.at' ⟨by simp[eqB,Zhl (Zi1 _) s.df.2],fun x j=>?_⟩;rw[ZA,Xg,s.df.1,Vv]at j;obtain⟨a,u,e⟩:=Zaw j;exact LW.mf u e
 ·refine o s.i.at' ⟨by simp[eqB,Zhl (Zig _) s.di.2],fun x j=>?_⟩;rw[ZA,Xg,s.di.1,Vv]at j;obtain⟨a,u,e⟩:=ZcU j;exact LW.mi u e
 ·exact o (s.fc a u l e) ⟨by simp[eqB,XU],fun x j=>by simp[ZA,Zv]at j⟩
 exact o (s.ic a u l e) ⟨by simp[eqB,XU],fun x j=>by simp[ZA,Zv]at j⟩
def LT.toW(t:LT):LW:=⟨t.nm,.own t.lc t.cols.length,[t.lc],t.cols,t.lk,t.key,.own t.lf t.fs.length,t.lf,t.fs,[],.own t.li t.is.length,t.li,t.is,[]⟩
theorem LT.toW_row(t:LT):ZZ t.toW=Zn t:=rfl
theorem LT.toW_tbl(t:LT):t.toW.tbl=t.tbl:=rfl
theorem LT.toW_pl(t:LT):t.toW.pl=t.pl:=rfl
theorem HT.toW{h:Za}{t:LT}(s:HT h t):HW h t.toW :=
 ⟨.inr ⟨t.lc,[],rfl,Dead.nil,.own s.c (by simp[LT.toW])⟩,s.k,.own s.f (by simp[LT.toW]),.own s.i (by simp[LT.toW]),s.fc,s.ic,Dead.nil,Dead.nil⟩
theorem Zb7(P:Nat→Prop)(d:∀l b,P l→m[l]?=some b→∀x∈ZA b,P x)(e:∀l,P l→eqB m[l]? m[l]?=true)(j:∀l∈Zg args,P l):chg m m (ZN m args (.fn g []))=[]:=by
 unfold ZN;simp only[Vv];cases q:ZE m args with
 |some _=>rfl
 |none =>
  simp only;cases h2:Qp m args with
  |none=>rfl
  |some l=>exact Zbm fun x k=>e x (ZbC d 100 _ [] (fun y o=>j y (Zas _ _ h2 y o)) (by simp) x k)
theorem ZM{h:Za}(e:Zi n (Zk h)=true)(j:Zi n (ZA b)=true):Zi n (Zk (h.set l b))=true:=by
 induction h generalizing l with
 |nil=>simpa using e
 |cons x h k =>
  have d:Zi n (ZA x++Zk h)=true:=e;rw[ZV,VA]at d;cases l with
  |zero =>
   show Zi n (ZA b++Zk h)=true;rw[ZV,j,d.2];rfl
  |succ l =>
   show Zi n (ZA x++Zk (h.set l b))=true;rw[ZV,d.1,k d.2];rfl
theorem Zc0(e:Zz D=[])(h:∀r∈rs,Zi n (Zg r)=true):Zi n (Zz (rs++D))=true:=by rw[Xg,e,Vv];refine Zt.2 fun x d=>?_;obtain⟨row,j,d⟩:=Yy d;exact Zt.1 (h row j) x d
theorem ZfZ{a:LI}{x:Nat}:x∈Zg (ZJ a)↔a.l=some x:=by cases e:a.l<;>simp[ZJ,Yc,e,Zg,locs,eq_comm]
theorem Zbx{a:LF}{x:Nat}:x∈Zg (ZF a)↔a.l=some x:=by cases e:a.l<;>simp[ZF,Yc,e,Zg,locs,eq_comm]
def cvP:List AV→List AV→Int
 |.str a::_,.str b::_=>Zmc a b
 |_,_=>0
def cvQ:List AV→List AV→Int
 |.str a::_,.str b::_=>Lib.compareBytes a b
 |_,_=>0
theorem ZqY{g:Za}{a:AV}{l:Nat}{A:List LI}{D:List (List AV)}{F:FuncId}{cv:List AV→List AV→Int}(U:K.shut.nlA F=(false,1))(Y:∀b c:LI,R K (.call F [Qe b.x,Qe c.x] [])=some (I (cv (ZJ b) (ZJ c)),[]))(s:∀b c:LI,decide (cv (ZJ b) (ZJ c)<0)=Op.bytesLess b.x.nm c.x.nm)(E:WL g 3 a l (A.map ZJ) D)(Z:Zz D=[])(J:∀b∈A,∀q,b.l=some q→q≠l∧g[q]?=some (.rows 1 (SLs b.x.cols) true))(hS:Zi g.length (Zk g)=true)(L:A.length<20):
  R K (.call 79 [a,.fn F []] g)=some (.tup [],g.set l (.rows 3 ((Ye (fun b=>b.x.nm) A).map ZJ++D) true)):=by
 have u:=(Vb.1 E.at').1;have j:∀{b:LI} (B:Blk),b∈A→∀q,b.l=some q→(g.set l B)[q]?=some (.rows 1 (SLs b.x.cols) true):=fun{b} B k q e=>by obtain⟨e1,e2⟩:=J b k q e;rw[Vc (fun h=>e1 h.symm)];exact e2
 have M:∀row,(∃b∈A,row=ZJ b)→row.length=3∧singles row=true:=fun row h=>by obtain⟨b,_,rfl⟩:=h;cases e:b.l<;>simp[ZJ,Yc,e,singles,single]
 have w:∀(B:Blk) (t:Za) (row:List AV),(∃b∈A,row=ZJ b)→ZE (g.set l B++t) row=some row∨ZE (g.set l B++t) row=none:=fun B t row h=>by
  obtain⟨b,k,rfl⟩:=h;cases e:b.l with
  |none=>exact .inl (by simp[ZJ,Yc,e,ZE,ZI])
  |some q=>exact .inr (by simp[ZJ,Yc,e,ZE,ZI,gL (j B k q e) t])
 have C:∀Q,(∀row∈Q,∃b∈A,row=ZJ b)→Zi g.length (Zk (g.set l (.rows 3 (Q++D) true)))=true:=fun Q G=>ZM hS (Zc0 Z fun r hr=>Zt.2 fun x d=>by obtain⟨b,k,rfl⟩:=G r hr;exact(Vb.1 (J b k x (ZfZ.1 d)).2).1)
 have N:∀Q (ra rb:List AV),(∀row∈Q,∃b∈A,row=ZJ b)→(∃b∈A,ra=ZJ b)→(∃b∈A,rb=ZJ b)→chg (g.set l (.rows 3 (Q++D) true)) (g.set l (.rows 3 (Q++D) true)) (ZN (g.set l (.rows 3 (Q++D) true)) [.agg ra,.agg rb] (.fn F []))=[]:=fun Q ra rb G H h2=>by
  obtain⟨b,k,rfl⟩:=H;obtain⟨c,o,rfl⟩:=h2;have key:∀x,b.l=some x∨c.l=some x→∃n,(g.set l (.rows 3 (Q++D) true))[x]?=some (.rows 1 (SLs n) true):=fun x d=>by
   rcases d with d|d
   ·exact⟨_,j _ k x d⟩
   exact⟨_,j _ o x d⟩
  refine Zb7 (fun x=>b.l=some x∨c.l=some x) (fun x B d O y hy=>?_) (fun x d=>?_) (fun x d=>?_)
  ·obtain⟨n,e⟩:=key x d;rw[e]at O;cases O;simp[ZA,Zv]at hy
  ·obtain⟨n,e⟩:=key x d;rw[e];simp[eqB,XU]
  rcases Vg.1 (show x∈Zg (ZJ b)++Zg [AV.agg (ZJ c)]from d)with d|d
  ·exact .inl (ZfZ.1 d)
  rcases Vg.1 (show x∈Zg (ZJ c)++[]from d)with d|d
  ·exact .inr (ZfZ.1 d)
  simp at d
 have o:∀Q (ra rb:List AV),(∀row∈Q,∃b∈A,row=ZJ b)→(∃b∈A,ra=ZJ b)→(∃b∈A,rb=ZJ b)→ZU K.shut.nlA (R K) (g.set l (.rows 3 (Q++D) true)) [.agg ra,.agg rb] (.fn F [])=some (I (cv ra rb),g.set l (.rows 3 (Q++D) true)):=fun Q ra rb G H h2=>by obtain⟨b,k,rfl⟩:=H;obtain⟨c,o,rfl⟩:=h2;exact w_I U (Y b c) (j _ k) (j _ o)
 have S:∀row∈A.map ZJ,∃b∈A,row=ZJ b:=fun row h=>by obtain⟨b,k,e⟩:=VE.1 h;exact⟨b,k,e.symm⟩
 have es:Zc1 (fun x y=>decide (cv x y<0)) 1 (A.length-1) (A.map ZJ)=(Ye (fun b=>b.x.nm) A).map ZJ:=by rw[Zc4,Ye];congr 2;funext x y;exact s _ _
 rcases E.is' with⟨rfl,rfl⟩|rfl
 ·have key:=Zsp .I (n:=(A.map ZJ).length) (m:=A.length) u rfl L (fun _=>rfl) M w C N o E.at' (by simp) (by simp) S;rw[es]at key;exact key
 have key:=Zsp .IV (n:=(A.map ZJ++D).length) (m:=(A.map ZJ).length) u rfl (by simpa using L) (fun h=>by cases h) M w C N o E.at' rfl rfl S;rw[Vd,es]at key;rw[Vd];exact key
theorem ZqO{g:Za}{a:AV}{l:Nat}{A:List LF}{D:List (List AV)}{F:FuncId}{cv:List AV→List AV→Int}(U:K.shut.nlA F=(false,1))(Y:∀b c:LF,R K (.call F [Wm b.f,Wm c.f] [])=some (I (cv (ZF b) (ZF c)),[]))(s:∀b c:LF,decide (cv (ZF b) (ZF c)<0)=Op.bytesLess b.f.nm c.f.nm)(E:WL g 3 a l (A.map ZF) D)(Z:Zz D=[])(J:∀b∈A,∀q,b.l=some q→q≠l∧g[q]?=some (.rows 1 (SLs b.f.cols) true))(hS:Zi g.length (Zk g)=true)(L:A.length<20):
  R K (.call 77 [a,.fn F []] g)=some (.tup [],g.set l (.rows 3 ((Ye (fun b=>b.f.nm) A).map ZF++D) true)):=by
 have u:=(Vb.1 E.at').1;have j:∀{b:LF} (B:Blk),b∈A→∀q,b.l=some q→(g.set l B)[q]?=some (.rows 1 (SLs b.f.cols) true):=fun{b} B k q e=>by obtain⟨e1,e2⟩:=J b k q e;rw[Vc (fun h=>e1 h.symm)];exact e2
 have M:∀row,(∃b∈A,row=ZF b)→row.length=3∧singles row=true:=fun row h=>by obtain⟨b,_,rfl⟩:=h;cases e:b.l<;>simp[ZF,Yc,e,singles,single]
 have w:∀(B:Blk) (t:Za) (row:List AV),(∃b∈A,row=ZF b)→ZE (g.set l B++t) row=some row∨ZE (g.set l B++t) row=none:=fun B t row h=>by
  obtain⟨b,k,rfl⟩:=h;cases e:b.l with
  |none=>exact .inl (by simp[ZF,Yc,e,ZE,ZI])
  |some q=>exact .inr (by simp[ZF,Yc,e,ZE,ZI,gL (j B k q e) t])
 have C:∀Q,(∀row∈Q,∃b∈A,row=ZF b)→Zi g.length (Zk (g.set l (.rows 3 (Q++D) true)))=true:=fun Q G=>ZM hS (Zc0 Z fun r hr=>Zt.2 fun x d=>by obtain⟨b,k,rfl⟩:=G r hr;exact(Vb.1 (J b k x (Zbx.1 d)).2).1)
 have N:∀Q (ra rb:List AV),(∀row∈Q,∃b∈A,row=ZF b)→(∃b∈A,ra=ZF b)→(∃b∈A,rb=ZF b)→chg (g.set l (.rows 3 (Q++D) true)) (g.set l (.rows 3 (Q++D) true)) (ZN (g.set l (.rows 3 (Q++D) true)) [.agg ra,.agg rb] (.fn F []))=[]:=fun Q ra rb G H h2=>by
  obtain⟨b,k,rfl⟩:=H;obtain⟨c,o,rfl⟩:=h2;have key:∀x,b.l=some x∨c.l=some x→∃n,(g.set l (.rows 3 (Q++D) true))[x]?=some (.rows 1 (SLs n) true):=fun x d=>by
   rcases d with d|d
   ·exact⟨_,j _ k x d⟩
   exact⟨_,j _ o x d⟩
  refine Zb7 (fun x=>b.l=some x∨c.l=some x) (fun x B d O y hy=>?_) (fun x d=>?_) (fun x d=>?_)
  ·obtain⟨n,e⟩:=key x d;rw[e]at O;cases O;simp[ZA,Zv]at hy
  ·obtain⟨n,e⟩:=key x d;rw[e];simp[eqB,XU]
  rcases Vg.1 (show x∈Zg (ZF b)++Zg [AV.agg (ZF c)]from d)with d|d
  ·exact .inl (Zbx.1 d)
  rcases Vg.1 (show x∈Zg (ZF c)++[]from d)with d|d
  ·exact .inr (Zbx.1 d)
  simp at d
 have o:∀Q (ra rb:List AV),(∀row∈Q,∃b∈A,row=ZF b)→(∃b∈A,ra=ZF b)→(∃b∈A,rb=ZF b)→ZU K.shut.nlA (R K) (g.set l (.rows 3 (Q++D) true)) [.agg ra,.agg rb] (.fn F [])=some (I (cv ra rb),g.set l (.rows 3 (Q++D) true)):=fun Q ra rb G H h2=>by obtain⟨b,k,rfl⟩:=H;obtain⟨c,o,rfl⟩:=h2;exact w_F U (Y b c) (j _ k) (j _ o)
 have S:∀row∈A.map ZF,∃b∈A,row=ZF b:=fun row h=>by obtain⟨b,k,e⟩:=VE.1 h;exact⟨b,k,e.symm⟩
 have es:Zc1 (fun x y=>decide (cv x y<0)) 1 (A.length-1) (A.map ZF)=(Ye (fun b=>b.f.nm) A).map ZF:=by rw[Zc4,Ye];congr 2;funext x y;exact s _ _
 rcases E.is' with⟨rfl,rfl⟩|rfl
 ·have key:=Zsp .F (n:=(A.map ZF).length) (m:=A.length) u rfl L (fun _=>rfl) M w C N o E.at' (by simp) (by simp) S;rw[es]at key;exact key
 have key:=Zsp .FV (n:=(A.map ZF++D).length) (m:=(A.map ZF).length) u rfl (by simpa using L) (fun h=>by cases h) M w C N o E.at' rfl rfl S;rw[Vd,es]at key;rw[Vd];exact key
theorem Zqj{g:Za}{a:AV}{l:Nat}{A:List LW}{D:List (List AV)}{F:FuncId}{cv:List AV→List AV→Int}(hF:K.shut.nlA F=(false,1))(hk:∀b c:LW,R K (.call F [Yk b.tbl,Yk c.tbl] [])=some (I (cv (ZZ b) (ZZ c)),[]))(w:∀b c:LW,decide (cv (ZZ b) (ZZ c)<0)=Op.bytesLess b.nm c.nm)(M:WL g 5 a l (A.map ZZ) D)(hd:Zz D=[])(q:∀b∈A,HW g b∧l∉b.pl)(hS:Zi g.length (Zk g)=true)(S:A.length<20):
  R K (.call 74 [a,.fn F []] g)=some (.tup [],g.set l (.rows 5 ((Ye (fun b=>b.nm) A).map ZZ++D) true)):=by
 have C:=(Vb.1 M.at').1;have o:∀{b:LW} (B:Blk),b∈A→HW (g.set l B) b:=fun{b} B j=>(q b j).1.set (q b j).2 B;have U:∀row,(∃b∈A,row=ZZ b)→row.length=5∧singles row=true:=fun row h=>by obtain⟨b,j,rfl⟩:=h;exact⟨rfl,(q b j).1.singles⟩
 have E:∀(B:Blk) (t:Za) (row:List AV),(∃b∈A,row=ZZ b)→ZE (g.set l B++t) row=some row∨ZE (g.set l B++t) row=none:=fun B t row h=>by obtain⟨b,j,rfl⟩:=h;exact .inr (Xq (a:=.own b.lk b.key.length) (by simp[ZZ]) (Zb0 (gL (o B j).k t)))
 have G:∀Q,(∀row∈Q,∃b∈A,row=ZZ b)→Zi g.length (Zk (g.set l (.rows 5 (Q++D) true)))=true:=fun Q N=>ZM hS (Zc0 hd fun r hr=>Zt.2 fun x d=>by obtain⟨b,j,rfl⟩:=N r hr;obtain⟨B,e,_⟩:=(q b j).1.at' ((q b j).1.locs_pl d);exact(Vb.1 e).1)
 have Y:∀Q (ra rb:List AV),(∀row∈Q,∃b∈A,row=ZZ b)→(∃b∈A,ra=ZZ b)→(∃b∈A,rb=ZZ b)→chg (g.set l (.rows 5 (Q++D) true)) (g.set l (.rows 5 (Q++D) true)) (ZN (g.set l (.rows 5 (Q++D) true)) [.agg ra,.agg rb] (.fn F []))=[]:=fun Q ra rb N O h2=>by
  obtain⟨b,j,rfl⟩:=O;obtain⟨c,s,rfl⟩:=h2;have key:∀x,x∈b.pl∨x∈c.pl→∃B,(g.set l (.rows 5 (Q++D) true))[x]?=some B∧eqB (g.set l (.rows 5 (Q++D) true))[x]? (g.set l (.rows 5 (Q++D) true))[x]?=true∧∀y∈ZA B,y∈b.pl∨y∈c.pl:=fun x d=>by
   rcases d with d|d
   ·obtain⟨B,H,u,J⟩:=(o (.rows 5 (Q++D) true) j).at' d;exact⟨B,H,u,fun y L=>.inl (J y L)⟩
   obtain⟨B,H,u,J⟩:=(o (.rows 5 (Q++D) true) s).at' d;exact⟨B,H,u,fun y L=>.inr (J y L)⟩
  refine Zb7 (fun x=>x∈b.pl∨x∈c.pl) (fun x B d Z y L=>?_) (fun x d=>?_) (fun x d=>?_)
  ·obtain⟨B',H,_,J⟩:=key x d;rw[H]at Z;cases Z;exact J y L
  ·obtain⟨B',_,u,_⟩:=key x d;exact u
  rcases Vg.1 (show x∈Zg (ZZ b)++Zg [AV.agg (ZZ c)]from d)with d|d
  ·exact .inl ((q b j).1.locs_pl d)
  rcases Vg.1 (show x∈Zg (ZZ c)++[]from d)with d|d
  ·exact .inr ((q c s).1.locs_pl d)
  simp at d
 have s:∀Q (ra rb:List AV),(∀row∈Q,∃b∈A,row=ZZ b)→(∃b∈A,ra=ZZ b)→(∃b∈A,rb=ZZ b)→ZU K.shut.nlA (R K) (g.set l (.rows 5 (Q++D) true)) [.agg ra,.agg rb] (.fn F [])=some (I (cv ra rb),g.set l (.rows 5 (Q++D) true)):=fun Q ra rb N O h2=>by
  obtain⟨b,j,rfl⟩:=O;obtain⟨c,s,rfl⟩:=h2;have s1:=o (.rows 5 (Q++D) true) j;have s2:=o (.rows 5 (Q++D) true) s;have u:Zs (Zy 7 (g.set l (.rows 5 (Q++D) true))) (g.set l (.rows 5 (Q++D) true)) [.agg (ZZ c)]=some [Yk c.tbl]:=by have:=s2.seen.cells 6;simp only[Zs,ZH,this]
  exact ZaM hF (Xq (a:=.agg (ZZ b)) (by simp) (by simp only[ZI,s1.pur])) (XO s1.seen _ _ u) (hk b c)
 have hP:∀row∈A.map ZZ,∃b∈A,row=ZZ b:=fun row h=>by obtain⟨b,j,e⟩:=VE.1 h;exact⟨b,j,e.symm⟩
 have es:Zc1 (fun x y=>decide (cv x y<0)) 1 (A.length-1) (A.map ZZ)=(Ye (fun b=>b.nm) A).map ZZ:=by rw[Zc4,Ye];congr 2;funext x y;exact w _ _
 rcases M.is' with⟨rfl,rfl⟩|rfl
 ·have key:=Zsp .T (n:=(A.map ZZ).length) (m:=A.length) C rfl S (fun _=>rfl) U E G Y s M.at' (by simp) (by simp) hP;rw[es]at key;exact key
 have key:=Zsp .TV (n:=(A.map ZZ++D).length) (m:=(A.map ZZ).length) C rfl (by simpa using S) (fun h=>by cases h) U E G Y s M.at' rfl rfl hP;rw[Vd,es]at key;rw[Vd];exact key
abbrev ZwY{g:Za}{a:AV}{l:Nat}{A:List LI}{D:List (List AV)}:=@ZqY g a l A D 219 cvP rfl (fun b c=>ZBy b.x c.x) (fun _ _=>ZfJ _ _)
abbrev Zwf{g:Za}{a:AV}{l:Nat}{A:List LI}{D:List (List AV)}:=@ZqY g a l A D 80 cvQ rfl (fun b c=>ZA6 b.x c.x) (fun _ _=>Zh5 _ _)
abbrev Ztl{g:Za}{a:AV}{l:Nat}{A:List LF}{D:List (List AV)}:=@ZqO g a l A D 223 cvP rfl (fun b c=>ZAq b.f c.f) (fun _ _=>ZfJ _ _)
abbrev Zwp{g:Za}{a:AV}{l:Nat}{A:List LF}{D:List (List AV)}:=@ZqO g a l A D 78 cvQ rfl (fun b c=>ZBP b.f c.f) (fun _ _=>Zh5 _ _)
abbrev ZuU{g:Za}{a:AV}{l:Nat}{A:List LW}{D:List (List AV)}:=@Zqj g a l A D 291 cvP rfl (fun b c=>ZAR b.tbl c.tbl) (fun _ _=>ZfJ _ _)
abbrev ZvF{g:Za}{a:AV}{l:Nat}{A:List LW}{D:List (List AV)}:=@Zqj g a l A D 75 cvQ rfl (fun b c=>ZBH b.tbl c.tbl) (fun _ _=>Zh5 _ _)
attribute [go_sem] ZN
def reF(o n:List UInt8)(f:Fgn):Fgn:=if f.tb=o then{f with tb:=n}else f
def reL(o n:List UInt8)(a:LF):LF:=⟨reF o n a.f,a.l⟩
theorem ZzI{kc lt n lf nf N:Nat}{c:Chg}{g:Za}{W:Nat→List AV}{a0:List UInt8}{a1 a2 a4:AV}{jj:Int}(S:W=fun m=>[.str a0,a1,a2,.own lf m,a4])(E:kc<N)(F:lt<N)(G:g.length=N)(w:lf<N)(H:nf≤1000000):
  ∀(r P:List LF) (q:Nat) (y:Int),P.length=q→nf=q+r.length→y=(q:Int) →
  ∀(ks:List It) (o:Code),YP f120 4 o→RL K (.run 120 N (.code o::.lp o (some ([0,3,5,85,86,87,93,94],[])) (N+2)::.blk 4 (N+2)::ks) [(0,.ptr kc 0),(3,.ptr N 0),(5,.ptr (N+1) 0),(85,.own lt n),(86,I (n:Int)),(87,I jj),(93,I (nf:Int)),(94,I y)] (g.set lf (.rows 3 ((P++r).map ZF) true)++[Blk.cells (Zb c),.cells (W nf)])) =
  R K (.run 120 N ks [(0,.ptr kc 0),(3,.ptr N 0),(85,.own lt n),(86,I (n:Int)),(87,I jj)] (g.set lf (.rows 3 ((P++r.map (reL c.tb c.nm)).map ZF) true)++[Blk.cells (Zb c),.cells (W nf)]))
 |[],P,q,y,A,s,J,ks,o,j=>by
  subst J;have e1:q=nf:=by simpa using s.symm
  have d:¬(q:Int)<(nf:Int):=by omega
  have tk:∀R:Blk,(g.set lf R++[Blk.cells (Zb c),.cells (W nf)]).take (N+2)=g.set lf R++[Blk.cells (Zb c),.cells (W nf)]:=fun R=>VM (by simp;omega);simp only[VO];simp only[go_sem,simprocAttr,f120]at j;subst j;rw[Ze];simp only[go_sem,simprocAttr,d,tk]
  done
 |a::r,P,q,y,A,s,J,ks,o,j=>by
  subst J;have d:(q:Int)<(nf:Int):=by simp at s;omega
  have U:=ZQ (i:=q) (n:=nf) (by simp at s;omega) (by omega);have u:∀b:Blk,(g.set lf b).length=N:=fun b=>by rw[Vq];exact G
  have L:∀b:Blk,(g.set lf b)[lf]?=some b:=fun b=>Vf (by rw[G];exact w);have ss:∀b b':Blk,(g.set lf b).set lf b'=g.set lf b':=fun b b'=>Uq ..;have B:((P++a::r).map ZF)[q]?=some (ZF a):=by rw[Vj,Vy (by omega),A,UJ];rfl
  have M:=ZW B;have Y:((P++a::r).map ZF).length=nf:=by simp at s ⊢;omega
  have st:((P++a::r).map ZF).set q [.str a.f.nm,Yc a.l a.f.cols,.str c.nm]=((P++⟨{a.f with tb:=c.nm},a.l⟩::r).map ZF):=by simp only[Ua,Vz];rw[Sk _ _ (by simp;omega),Vd,A,UJ];rfl
  have k:=ZzI (c:=c) (jj:=jj) (n:=n) S E F G w H r (P++[reL c.tb c.nm a]) (q+1) _ (by simp[A]) (by simp at s ⊢;omega) rfl ks o j;have Z:=congrFun S nf;simp only[Vo,Ud]at k;simp only[ZF]at B M;rw[Vz];by_cases C:(a.f.tb==c.tb)=true
  ·have e:reL c.tb c.nm a=⟨{a.f with tb:=c.nm},a.l⟩:=by have:=eq_of_beq C;simp[reL,reF,this]
   rw[e]at k ⊢;simp only[Z,Zb]at k ⊢;simp only[go_sem,simprocAttr,f120]at j;subst j;rw[Ze];simp only[go_sem,simprocAttr,d,U,C,gL (L _),sL (L _),ss,B,M,Y,st,Vk,gA0 (u _),gA (u _),YL (u _),Vo,Vl,Vi];exact k
  have O:(a.f.tb==c.tb)=false:=Uk.2 C;have e:reL c.tb c.nm a=a:=by have:¬a.f.tb=c.tb:=fun h=>C (by simp[h]);simp[reL,reF,this]
  rw[e]at k ⊢;simp only[Z,Zb]at k ⊢;simp only[go_sem,simprocAttr,f120]at j;subst j;rw[Ze];simp only[go_sem,simprocAttr,d,U,O,gL (L _),B,M,Y,Vk,gA0 (u _),gA (u _),YL (u _),Vo,Vl,Vi];exact k
theorem ZzA{lt n lf nf N:Nat}{c:Chg}{g:Za}{W:Nat→List AV}{a0:List UInt8}{a1 a2 a4:AV}{jj:Int}(Y:W=fun m=>[.str a0,a1,a2,.own lf m,a4])(G:3≤N)(H:lt<N)(J:g.length=N)(y:lf<N)(L:nf≤1000000)(Z:g[1]?=some (.cells (Zb c)))(j:lf≠1):
  ∀(r P:List LF) (q:Nat) (A:Int),P.length=q→nf=q+r.length→A=(q:Int) →
  ∀(ks:List It) (u:Code),YP f31 3 u→RL K (.run 31 0 (.code u::.lp u (some ([2,3,4,7,60,61,62,68,69],[])) (N+1)::.blk 3 (N+1)::ks) [(2,.ptr 0 0),(3,.ptr 1 0),(4,.ptr 2 0),(7,.ptr N 0),(60,.own lt n),(61,I (n:Int)),(62,I jj),(68,I (nf:Int)),(69,I A)] (g.set lf (.rows 3 ((P++r).map ZF) true)++[Blk.cells (W nf)])) =
  R K (.run 31 0 ks [(2,.ptr 0 0),(3,.ptr 1 0),(4,.ptr 2 0),(60,.own lt n),(61,I (n:Int)),(62,I jj)] (g.set lf (.rows 3 ((P++r.map (reL c.tb c.nm)).map ZF) true)++[Blk.cells (W nf)]))
 |[],P,q,A,B,w,M,ks,u,k=>by
  subst M;have e1:q=nf:=by simpa using w.symm
  have d:¬(q:Int)<(nf:Int):=by omega
  have tk:∀R:Blk,(g.set lf R++[Blk.cells (W nf)]).take (N+1)=g.set lf R++[Blk.cells (W nf)]:=fun R=>VM (by simp;omega);simp only[VO];simp only[go_sem,simprocAttr,f31]at k;subst k;rw[Ze];simp only[go_sem,simprocAttr,d,tk]
  done
 |a::r,P,q,A,B,w,M,ks,u,k=>by
  subst M;have d:(q:Int)<(nf:Int):=by simp at w;omega
  have h7:=ZQ (i:=q) (n:=nf) (by simp at w;omega) (by omega);have C:∀b:Blk,(g.set lf b).length=N:=fun b=>by rw[Vq];exact J
  have O:∀b:Blk,(g.set lf b)[lf]?=some b:=fun b=>Vf (by rw[J];exact y);have ss:∀b b':Blk,(g.set lf b).set lf b'=g.set lf b':=fun b b'=>Uq ..;have E:((P++a::r).map ZF)[q]?=some (ZF a):=by rw[Vj,Vy (by omega),B,UJ];rfl
  have S:=ZW E;have ln:((P++a::r).map ZF).length=nf:=by simp at w ⊢;omega
  have st:((P++a::r).map ZF).set q [.str a.f.nm,Yc a.l a.f.cols,.str c.nm]=((P++⟨{a.f with tb:=c.nm},a.l⟩::r).map ZF):=by simp only[Ua,Vz];rw[Sk _ _ (by simp;omega),Vd,B,UJ];rfl
  have o:∀b:Blk,(g.set lf b)[1]?=some (.cells (Zb c)):=fun b=>by rw[Vc j];exact Z
  simp only[Zb]at o;have s:=ZzA (c:=c) (jj:=jj) (n:=n) Y G H J y L Z j r (P++[reL c.tb c.nm a]) (q+1) _ (by simp[B]) (by simp at w ⊢;omega) rfl ks u k;have hw:=congrFun Y nf;simp only[Vo,Ud]at s;simp only[ZF]at E S;rw[Vz];by_cases F:(a.f.tb==c.tb)=true
  ·have e:reL c.tb c.nm a=⟨{a.f with tb:=c.nm},a.l⟩:=by have:=eq_of_beq F;simp[reL,reF,this]
   rw[e]at s ⊢;simp only[hw]at s ⊢;simp only[go_sem,simprocAttr,f31]at k;subst k;rw[Ze];simp only[go_sem,simprocAttr,d,h7,F,gL (O _),sL (O _),ss,E,S,ln,st,Vk,gL (o _),gA0 (C _),YL (C _),Vo,Vl,Vi];exact s
  have U:(a.f.tb==c.tb)=false:=Uk.2 F;have e:reL c.tb c.nm a=a:=by have:¬a.f.tb=c.tb:=fun h=>F (by simp[h]);simp[reL,reF,this]
  rw[e]at s ⊢;simp only[hw]at s ⊢;simp only[go_sem,simprocAttr,f31]at k;subst k;rw[Ze];simp only[go_sem,simprocAttr,d,h7,U,gL (O _),E,S,ln,Vk,gL (o _),gA0 (C _),YL (C _),Vo,Vl,Vi];exact s
theorem Znn(e:h[l]?=some b):h.set l b=h:=by obtain⟨d,h2⟩:=Vb.1 e;rw[←h2];exact List.set_getElem_self d
theorem Zzz{kc lt n N:Nat}{c:Chg}{X:List LT}(hX:X.length=n)(hn:n≤1000)(G:kc<N)(H:lt<N):∀(r:List LT) (j:Nat) (g:Za) (jj:Int),r=X.drop j→j≤X.length→jj=(j:Int)→g.length=N→Zi N (Zk g)=true→g[lt]?=some (.rows 5 (X.map Zn) true) →
  (∀T∈r,g[T.lf]?=some (.rows 3 (T.fs.map ZF) true)∧T.fs.length≤1000)→(lt::r.map (·.lf)).Nodup→(∀T∈r,∀x∈Zg (Zn T),x<N) →
  ∃g':Za,g'.length=N∧Zi N (Zk g')=true∧(∀l,l∉r.map (·.lf)→g'[l]?=g[l]?)∧(∀T∈r,g'[T.lf]?=some (.rows 3 ((T.fs.map (reL c.tb c.nm)).map ZF) true)) ∧
  ∀(ks:List It) (o:Code),YP f120 2 o→RL K (.run 120 N (.code o::.lp o (some ([0,3,85,86,87],[])) (N+1)::.blk 2 (N+1)::ks) [(0,.ptr kc 0),(3,.ptr N 0),(85,.own lt n),(86,I (n:Int)),(87,I jj)] (g++[Blk.cells (Zb c)]))=R K (.run 120 N ks [(0,.ptr kc 0)] (g'++[Blk.cells (Zb c)]))
 |[],j,g,jj,J,hj,y,k,S,Z,hT,A,q=>by
  subst y;refine⟨g,k,S,fun _ _=>rfl,fun T h=>by simp at h,fun ks o s=>?_⟩;have e1:j=n:=by have:=congrArg List.length J;simp at this;omega
  have d:¬(j:Int)<(n:Int):=by omega
  have tk:(g++[Blk.cells (Zb c)]).take (N+1)=(g++[Blk.cells (Zb c)]):=VM (by first|omega|(simp;omega));simp only[go_sem,simprocAttr,f120]at s;subst s;rw[Ze];simp only[go_sem,simprocAttr,d,tk]
  done
 |T::r,j,g,jj,J,hj,y,k,S,Z,hT,A,q=>by
  subst y;have d1:j<X.length:=by have:=congrArg List.length J;simp at this;omega
  have d:(j:Int)<(n:Int):=by omega
  have h7:=ZQ (i:=j) (n:=n) (by omega) (by omega);have a0:X[j]?=some T:=by have:=congrArg (·[0]?) J;simp at this;exact this.symm
  have a1:r=X.drop (j+1):=by have:=congrArg List.tail J;simpa[UY]using this
  obtain⟨B,a7⟩:=hT T VV;have u:T.lf<N:=by rw[←k];exact(Vb.1 B).1
  rw[Vz]at A;obtain⟨n1,n2⟩:=Vx.1 A;obtain⟨n3,n4⟩:=Vx.1 n2;have ne:lt≠T.lf:=fun e=>n1 (by rw[e];exact VV);generalize C:Blk.rows 3 ((T.fs.map (reL c.tb c.nm)).map ZF) true=E;have M:(g.set T.lf E).length=N:=by rw[Vq];exact k
  have a2:∀x∈ZA E,x<N:=fun x hx=>by rw[←C]at hx;obtain⟨b,hb,e⟩:=Zaw (show x∈Zz _ from hx);obtain⟨b',a3,rfl⟩:=VE.1 hb;have:x∈ZA (.rows 3 (T.fs.map ZF) true):=YH (VE.2 ⟨b',a3,rfl⟩) x (Zbx.2 e);exact Zt.1 S x (Y5 B x this)
  have u1:Zi N (Zk (g.set T.lf E))=true:=ZM S (Zt.2 a2);obtain⟨g',p1,p2,p3,p4,Y⟩:=Zzz (c:=c) hX hn G H r (j+1) (g.set T.lf E) _ a1 (by omega) rfl M u1 (by rw[Vc ne.symm];exact Z)
   (fun U w=>by rw[Vc fun e=>n3 (by rw[e];exact VE.2 ⟨U,w,rfl⟩)];exact hT U (VD _ w))
   (Vx.2 ⟨fun h=>n1 (VD _ h),n4⟩) (fun U w=>q U (VD _ w))
  refine⟨g',p1,p2,fun l F=>?_,fun U w=>?_,fun ks o s=>?_⟩
  ·rw[Vz,Vn,So]at F;rw[p3 l F.2,Vc fun e=>F.1 e.symm]
  ·rcases Vn.1 w with rfl|w
   ·rw[p3 _ n3,Vf (by rw[k];exact u),C]
   exact p4 U w
  have Y:=Y ks o s;have gr:(X.map Zn)[j]?=some (Zn T):=by rw[Vj,a0];rfl
  have ga:=ZW gr;have L:=fun(ks:List It) (o:Code) s=>ZzI (c:=c) (g:=g) (jj:=(j:Int)) (n:=n) (nf:=T.fs.length) (W:=fun m=>[.str T.nm,.own T.lc T.cols.length,.own T.lk T.key.length,.own T.lf m,.own T.li T.is.length]) rfl G H k u (by omega) T.fs [] 0 0 rfl (by simp) rfl ks o s;simp only[Vi,C,Znn B]at L;have tk:(g.set T.lf E++[Blk.cells (Zb c),.cells ([.str T.nm,.own T.lc T.cols.length,.own T.lk T.key.length,.own T.lf T.fs.length,.own T.li T.is.length])]).take (N+1)=g.set T.lf E++[Blk.cells (Zb c)]:=by rw[YL M];rfl
  have O:Zi (N+1) (Zk (g.set T.lf E++[Blk.cells (Zb c)]))=true:=by rw[ZR,ZV];exact VX.2 ⟨Yf u1 (by omega),rfl⟩
  have a4:kc<N+1:=by omega
  have a5:lt<N+1:=by omega
  have a6:N<N+1:=by omega
  simp only[Zn]at gr ga;simp only[Zb]at L tk O Y ⊢;simp only[go_sem,simprocAttr,f120]at s;subst s;rw[Ze];simp only[go_sem,simprocAttr,d,k,gL Z,gr,ga,hX,Vd,gA k,sA k,Vk,Vo,Vl,Vi];rw[L _ _ ?_]
  rotate_left
  ·rfl
  simp only[go_sem,simprocAttr,h7,tk,O,a4,a5,a6];rw[Vr (by omega)];exact Y
theorem ZzY{lt n N:Nat}{c:Chg}{X:List LT}(hX:X.length=n)(hn:n≤1000)(J:3≤N)(B:lt<N):∀(r:List LT) (j:Nat) (g:Za) (jj:Int),r=X.drop j→j≤X.length→jj=(j:Int)→g.length=N→Zi N (Zk g)=true→g[lt]?=some (.rows 5 (X.map Zn) true) →
  (∀T∈r,g[T.lf]?=some (.rows 3 (T.fs.map ZF) true)∧T.fs.length≤1000)→(lt::r.map (·.lf)).Nodup→(∀T∈r,∀x∈Zg (Zn T),x<N)→g[1]?=some (.cells (Zb c))→1∉r.map (·.lf) →
  ∃g':Za,g'.length=N∧Zi N (Zk g')=true∧(∀l,l∉r.map (·.lf)→g'[l]?=g[l]?)∧(∀T∈r,g'[T.lf]?=some (.rows 3 ((T.fs.map (reL c.tb c.nm)).map ZF) true)) ∧
  ∀(ks:List It) (q:Code),YP f31 1 q→RL K (.run 31 0 (.code q::.lp q (some ([2,3,4,60,61,62],[])) N::.blk 1 N::ks) [(2,.ptr 0 0),(3,.ptr 1 0),(4,.ptr 2 0),(60,.own lt n),(61,I (n:Int)),(62,I jj)] g)=R K (.run 31 0 ks [(2,.ptr 0 0),(4,.ptr 2 0)] g')
 |[],j,g,jj,M,hj,C,k,Y,hl,hT,E,s,h1,o=>by
  subst C;refine⟨g,k,Y,fun _ _=>rfl,fun T h=>by simp at h,fun ks q u=>?_⟩;have e1:j=n:=by have:=congrArg List.length M;simp at this;omega
  have d:¬(j:Int)<(n:Int):=by omega
  have tk:g.take N=g:=VM (by first|omega|(simp;omega));simp only[go_sem,simprocAttr,f31]at u;subst u;rw[Ze];simp only[go_sem,simprocAttr,d,tk]
  done
 |T::r,j,g,jj,M,hj,C,k,Y,hl,hT,E,s,h1,o=>by
  subst C;have d1:j<X.length:=by have:=congrArg List.length M;simp at this;omega
  have d:(j:Int)<(n:Int):=by omega
  have h7:=ZQ (i:=j) (n:=n) (by omega) (by omega);have a0:X[j]?=some T:=by have:=congrArg (·[0]?) M;simp at this;exact this.symm
  have a1:r=X.drop (j+1):=by have:=congrArg List.tail M;simpa[UY]using this
  obtain⟨F,a8⟩:=hT T VV;have w:T.lf<N:=by rw[←k];exact(Vb.1 F).1
  rw[Vz]at E;obtain⟨n1,n2⟩:=Vx.1 E;obtain⟨n3,n4⟩:=Vx.1 n2;have ne:lt≠T.lf:=fun e=>n1 (by rw[e];exact VV);generalize G:Blk.rows 3 ((T.fs.map (reL c.tb c.nm)).map ZF) true=y;have O:(g.set T.lf y).length=N:=by rw[Vq];exact k
  have a2:∀x∈ZA y,x<N:=fun x hx=>by rw[←G]at hx;obtain⟨b,hb,e⟩:=Zaw (show x∈Zz _ from hx);obtain⟨b',a3,rfl⟩:=VE.1 hb;have:x∈ZA (.rows 3 (T.fs.map ZF) true):=YH (VE.2 ⟨b',a3,rfl⟩) x (Zbx.2 e);exact Zt.1 Y x (Y5 F x this)
  have u1:Zi N (Zk (g.set T.lf y))=true:=ZM Y (Zt.2 a2);have a4:(g.set T.lf y)[1]?=some (.cells (Zb c)):=by rw[Vc fun e=>o (by rw[←e];exact VE.2 ⟨T,VV,rfl⟩)];exact h1
  obtain⟨g',p1,p2,p3,p4,Z⟩:=ZzY (c:=c) hX hn J B r (j+1) (g.set T.lf y) _ a1 (by omega) rfl O u1 (by rw[Vc ne.symm];exact hl)
   (fun U A=>by rw[Vc fun e=>n3 (by rw[e];exact VE.2 ⟨U,A,rfl⟩)];exact hT U (VD _ A))
   (Vx.2 ⟨fun h=>n1 (VD _ h),n4⟩) (fun U A=>s U (VD _ A)) a4 (fun h=>o (VD _ h))
  refine⟨g',p1,p2,fun l H=>?_,fun U A=>?_,fun ks q u=>?_⟩
  ·rw[Vz,Vn,So]at H;rw[p3 l H.2,Vc fun e=>H.1 e.symm]
  ·rcases Vn.1 A with rfl|A
   ·rw[p3 _ n3,Vf (by rw[k];exact w),G]
   exact p4 U A
  have Z:=Z ks q u;have gr:(X.map Zn)[j]?=some (Zn T):=by rw[Vj,a0];rfl
  have ga:=ZW gr;have L:=fun(ks:List It) (q:Code) u=>ZzA (c:=c) (g:=g) (jj:=(j:Int)) (n:=n) (nf:=T.fs.length) (W:=fun m=>[.str T.nm,.own T.lc T.cols.length,.own T.lk T.key.length,.own T.lf m,.own T.li T.is.length]) rfl J B k w (by omega) h1 (fun e=>o (by rw[←e];exact VE.2 ⟨T,VV,rfl⟩)) T.fs [] 0 0 rfl (by simp) rfl ks q u;simp only[Vi,G,Znn F]at L;have tk:(g.set T.lf y++[Blk.cells ([.str T.nm,.own T.lc T.cols.length,.own T.lk T.key.length,.own T.lf T.fs.length,.own T.li T.is.length])]).take N=g.set T.lf y++[]:=by rw[X6 O,Vv]
  have S:Zi N (Zk (g.set T.lf y++[]))=true:=by rw[ZR,ZV];exact VX.2 ⟨Yf u1 (by omega),rfl⟩
  have a5:0<N:=by omega
  have a6:1<N:=by omega
  have a7:2<N:=by omega
  simp only[Zn]at gr ga;simp only[Vv]at L tk S Z ⊢;simp only[go_sem,simprocAttr,f31]at u;subst u;rw[Ze];simp only[go_sem,simprocAttr,d,k,gr,ga,hX,Vd,hl,gA0 k,sA0 k,Vk,Vl,Vi];rw[L _ _ ?_]
  rotate_left
  ·rfl
  simp only[go_sem,simprocAttr,h7,tk,S,a5,a6,a7,B];exact Z
attribute [go_sem] Zy Zs ZH Z1 ZL Yd Z0
def Zg7(t:Tbl):Tbl:=⟨t.nm,t.cols,t.key,Ye (fun f=>f.nm) t.fgn,Ye (fun f=>f.nm) t.idx⟩
def Y2(y:List Tbl):List Tbl:=(Ye (fun t=>t.nm) y).map Zg7
theorem Zdv{t:Tbl}(d:Rising (fun f:Fgn=>f.nm) t.fgn)(h2:Rising (fun f:Idx=>f.nm) t.idx):Zg7 t=t:=by simp only[Zg7,ZbR d,ZbR h2]
theorem Znf(h:∀t∈x,Zg7 t=t):x.map Zg7=x:=by
 conv=>rhs;rw[←PX x]
 exact Ul fun t d=>h t d
theorem RsX.same(h:RsX x):∀t∈x,Zg7 t=t:=fun t d=>Zdv (h.tb t d).fg (h.tb t d).ix
theorem ZcT{y:List Tbl}(h:∀t∈y,Zg7 t=t):Y2 y=Ye (fun t=>t.nm) y :=
 Znf fun t d=>h t ((Yn _ y).mem_iff.1 d)
theorem Zhr(h:RsX x){t t':Tbl}(hi:x[i]?=some t)(d:t'.nm=t.nm):Y2 (x.set i t')=x.set i (Zg7 t'):=by unfold Y2;rw[ZbR (h.nm.set_same i hi d),V9,Znf h.same]
theorem Rising.map_same{nm:α→List UInt8}{d:β→List UInt8}{l:List α}(h:Rising nm l){f:α→β}(e:∀a∈l,d (f a)=nm a):Rising d (l.map f):=by refine List.pairwise_map.2 (List.Pairwise.imp_of_mem ?_ h);intro a b k o j;rw[e a k,e b o];exact j
section
variable{x:List Tbl}(hx:RsX x){i:Nat}{t:Tbl}(hi:x[i]?=some t)
include hx hi
theorem RsX.at':RsT t:=hx.tb t (Ve hi)
theorem Q1(cols:List Col)(key:List (List UInt8)):Y2 (x.set i ⟨t.nm,cols,key,t.fgn,t.idx⟩)=x.set i ⟨t.nm,cols,key,t.fgn,t.idx⟩:=by have s:=hx.at' hi;rw[Zhr hx hi (t':=⟨t.nm,cols,key,t.fgn,t.idx⟩) rfl,Zdv (t:=⟨t.nm,cols,key,t.fgn,t.idx⟩) s.fg s.ix]
theorem ZrK(j:Nat)(col:Col)(c:Chg):Y2 (x.set i (Zfh t j col c))=x.set i (Zfh t j col c):=by have s:=hx.at' hi;rw[Zhr hx hi (t':=Zfh t j col c) rfl,Zdv (t:=Zfh t j col c) (s.fg.map_same fun _ _=>rfl) (s.ix.map_same fun _ _=>rfl)]
theorem Zn2(l:List Idx):Y2 (x.set i ⟨t.nm,t.cols,t.key,t.fgn,l⟩)=x.set i ⟨t.nm,t.cols,t.key,t.fgn,Ye (fun f=>f.nm) l⟩:=by have s:=hx.at' hi;rw[Zhr hx hi (t':=⟨t.nm,t.cols,t.key,t.fgn,l⟩) rfl];simp only[Zg7,ZbR s.fg]
theorem ZoO(l:List Fgn):Y2 (x.set i ⟨t.nm,t.cols,t.key,l,t.idx⟩)=x.set i ⟨t.nm,t.cols,t.key,Ye (fun f=>f.nm) l,t.idx⟩:=by have s:=hx.at' hi;rw[Zhr hx hi (t':=⟨t.nm,t.cols,t.key,l,t.idx⟩) rfl];simp only[Zg7,ZbR s.ix]
theorem Zp9{n:List UInt8}{j:Nat}(d:ixN n (t.idx.map (·.nm)) 0=(j:Int)):Y2 (x.set i ⟨t.nm,t.cols,t.key,t.fgn,t.idx.filter fun f=>!(f.nm==n)⟩)=x.set i ⟨t.nm,t.cols,t.key,t.fgn,t.idx.eraseIdx j⟩:=by have s:=hx.at' hi;have e:=ZaC _ 0 j (by rw[d];simp);rw[Vj,UT]at e;obtain⟨a,k,o⟩:=e;rw[Zn2 hx hi,ZbR (s.ix.sub (SO)),QI s.ix.one k o]
theorem Zpu{n:List UInt8}{j:Nat}(d:ixN n (t.fgn.map (·.nm)) 0=(j:Int)):Y2 (x.set i ⟨t.nm,t.cols,t.key,t.fgn.filter fun f=>!(f.nm==n),t.idx⟩)=x.set i ⟨t.nm,t.cols,t.key,t.fgn.eraseIdx j,t.idx⟩:=by have s:=hx.at' hi;have e:=ZaC _ 0 j (by rw[d];simp);rw[Vj,UT]at e;obtain⟨a,k,o⟩:=e;rw[ZoO hx hi,ZbR (s.fg.sub (SO)),QI s.fg.one k o]
theorem ZsJ{n:List UInt8}(d:t.nm=n):Y2 (x.eraseIdx i)=Ye (fun t=>t.nm) (x.filter fun u=>!(u.nm==n)):=by rw[QI hx.nm.one hi d];exact ZcT fun u e=>hx.same u (Pe e)
end
theorem Zn6(h:RsX x){t:Tbl}(e:Rising (fun f:Fgn=>f.nm) t.fgn)(h2:Rising (fun f:Idx=>f.nm) t.idx):Y2 (x++[t])=Ye (fun t=>t.nm) (x++[t]) :=
 ZcT fun u d=>by
  rcases Vg.1 d with d|d
  ·exact h.same u d
  rw[VH]at d;subst d;exact Zdv e h2
def reT(o n:List UInt8)(t:Tbl):Tbl:=⟨t.nm,t.cols,t.key,t.fgn.map (reF o n),t.idx⟩
theorem ZoL(h:RsX x){t:Tbl}(hi:x[i]?=some t)(o n:List UInt8):Y2 ((x.set i ⟨n,t.cols,t.key,t.fgn,t.idx⟩).map (reT o n))=Ye (fun t=>t.nm) ((x.set i ⟨n,t.cols,t.key,t.fgn,t.idx⟩).map (reT o n)):=by
 have e:∀f:Fgn,(reF o n f).nm=f.nm:=fun f=>by unfold reF;split<;>rfl
 refine ZcT fun u j=>?_;obtain⟨v,d,rfl⟩:=VE.1 j;rcases VL d with d|rfl
 ·have s:=h.tb v d;exact Zdv (s.fg.map_same fun f _=>e f) s.ix
 have s:=h.at' hi;exact Zdv (s.fg.map_same fun f _=>e f) s.ix
structure SchW(h:Za)(a:AV)(l:Nat)(W:List LW)(D:List (List AV)):Prop where
 tb:WL h 5 a l (W.map ZZ) D
 hw:∀T∈W,HW h T
 ap:(l::W.flatMap LW.pl).Nodup
 dd:Zz D=[]
theorem SchW.seen{h:Za}{a:AV}{l:Nat}{W:List LW}{D:List (List AV)}(s:SchW h a l W D):SeenX h a (W.map LW.tbl) :=
 ⟨_,s.tb.lst,Both.map fun T d=>(s.hw T d).seen⟩
theorem SchW.notl{h:Za}(s:SchW h a l W D){T:LW}(d:T∈W):l∉T.pl:=fun e=>(Vx.1 s.ap).1 (V1.2 ⟨T,d,e⟩)
theorem Ztc(d:(W.flatMap LW.pl).Nodup):∀{T:LW},T∈W→T.pl.Nodup:=by
 induction W with
 |nil=>intro T h;simp at h
 |cons A W j =>
  intro T e;rw[US,VY]at d;rcases Vn.1 e with rfl|e
  ·exact d.1
  exact j d.2.1 e
theorem ZvD:∀{W:List LW},(W.flatMap LW.pl).Nodup→∀{i k:Nat} {T U:LW},W[i]?=some T→W[k]?=some U→i≠k→∀l,l∈T.pl→l∉U.pl:=by
 have key:∀(X:List LW),(X.flatMap LW.pl).Nodup→∀(i k:Nat) (T U:LW),X[i]?=some T→X[k]?=some U→i<k→∀l,l∈T.pl→l∈U.pl→False:=by
  intro X
  induction X with
  |nil=>intro _ i k T U e;simp at e
  |cons A X s =>
   intro d i k T U e h2 u l j o;rw[US,VY]at d;cases k with
   |zero=>omega
   |succ k =>
    cases i with
    |zero =>
     simp only[Vt,Va]at e;subst e;exact d.2.2 l j l (V1.2 ⟨U,Ve (by simpa using h2),o⟩) rfl
    |succ i=>exact s d.2.1 i k T U (by simpa using e) (by simpa using h2) (by omega) l j o
 intro W d i k T U hi r q l j o;rcases Sy q with h|h
 ·exact key W d i k T U hi r h l j o
 exact key W d k i U T r hi h l o j
theorem Zfs{α β:Type}(f:α→List β):∀(W:List α) (j:Nat) (T d:α),W[j]?=some T→(f d).Perm (f T)→((W.set j d).flatMap f).Perm (W.flatMap f)
 |[],_,_,_,h,_=>by simp at h
 |A::W,0,T,d,h,p=>by simp only[Vt,Va]at h;subst h;simp only[SY,US];exact p.append_right _
 |A::W,j+1,T,d,h,p=>by simp only[Sz,US];exact(Zfs f W j T d (by simpa using h) p).append_left _
theorem SchW.put{h:Za}{j:Nat}{T o:LW}(s:SchW h a l W D)(q:W[j]?=some T)(w:o.pl.Perm T.pl)(y:ZZ o=ZZ T)(A:HW h' o)(fr:∀p,p∉T.pl→h'[p]?=h[p]?):SchW h' a l (W.set j o) D:=by
 have e:(W.set j o).map ZZ=W.map ZZ:=by
  rw[V9,y];have:(W.map ZZ)[j]?=some (ZZ T):=by rw[Vj,q];rfl
  obtain⟨B,h2⟩:=Vb.1 this;rw[←h2];exact List.set_getElem_self B
 refine⟨by rw[e];exact s.tb.frame (fr l (s.notl (Ve q))),fun U C=>?_,?_,s.dd⟩
 ·obtain⟨k,r⟩:=Uf.1 C;by_cases d:j=k
  ·subst d;rw[Vf (Vb.1 q).1]at r;cases r;exact A
  rw[Vc d]at r;exact(s.hw U (Ve r)).frame fun p u=>fr p (ZvD (Vx.1 s.ap).2 r q (fun e=>d e.symm) p u)
 refine(PA ?_).1 s.ap;exact((Zfs LW.pl W j T o q w).symm).cons l
theorem SchW.sorted(s:SchW h a l W D):SchW (h.set l (.rows 5 ((Ye (fun b=>b.nm) W).map ZZ++D) true)) a l (Ye (fun b=>b.nm) W) D:=by
 have e:=(Vb.1 s.tb.at').1;have p:=Yn (fun b:LW=>b.nm) W;refine⟨⟨Vf e,?_⟩,fun T d=>(s.hw T (p.mem_iff.1 d)).set (s.notl (p.mem_iff.1 d)) _,(PA ((p.flatMap_right LW.pl).cons l)).2 s.ap,s.dd⟩;rcases s.tb.is' with⟨j,h2⟩|h2
 ·refine .inl ⟨j,?_⟩;rw[h2,Vd,Vd,Jx]
 refine .inr ?_;rw[h2];simp only[Vu,Vd,Jx]
def ZaN(t:LW):LW:={t with fs:=Ye (fun a=>a.f.nm) t.fs,is:=Ye (fun a=>a.x.nm) t.is}
theorem ZwI(t:LW):ZZ (ZaN t)=ZZ t:=rfl
theorem Zvx(t:LW):(ZaN t).tbl=Zg7 t.tbl:=by simp only[ZaN,LW.tbl,Zg7];rw[Ju (fun a:LF=>a.f) (fun f=>f.nm),Ju (fun a:LI=>a.x) (fun f=>f.nm)]
theorem ZlA(t:LW):(ZaN t).pl.Perm t.pl:=by simp only[ZaN,LW.pl];exact((((((Yn (fun a:LF=>a.f.nm) t.fs).filterMap _).append ((Yn (fun a:LI=>a.x.nm) t.is).filterMap _)).cons _).cons _).cons _).append_left _
theorem Zu8(W:List LW):((Ye (fun b=>b.nm) W).map ZaN).map LW.tbl=Y2 (W.map LW.tbl):=by unfold Y2;rw[Ju LW.tbl (fun t=>t.nm),V8,V8];exact Ul fun T _=>Zvx T
theorem HW.srt{h:Za}(s:HW h t)(C:t.pl.Nodup)
  (F:h'[t.lf]?=some (.rows 3 ((Ye (fun a=>a.f.nm) t.fs).map ZF++t.df) true)) (G:h'[t.li]?=some (.rows 3 ((Ye (fun a=>a.x.nm) t.is).map ZJ++t.di) true)) (fr:∀p,p≠t.lf→p≠t.li→h'[p]?=h[p]?):HW h' (ZaN t):=by
 have pf:=Yn (fun a:LF=>a.f.nm) t.fs;have H:=Yn (fun a:LI=>a.x.nm) t.is;have A:=(VY.1 C).2.1;have r:=(VY.1 C).2.2;have B:=Vx.1 A;have E:=Vx.1 B.2;have J:=Vx.1 E.2;have L:∀a∈t.fs,∀l,a.l=some l→l∈t.fs.filterMap (·.l)++t.is.filterMap (·.l):=fun a o l e=>Vg.2 (.inl (VG.2 ⟨a,o,e⟩));have M:∀a∈t.is,∀l,a.l=some l→l∈t.fs.filterMap (·.l)++t.is.filterMap (·.l):=fun a o l e=>Vg.2 (.inr (VG.2 ⟨a,o,e⟩));have ne:∀l∈t.fs.filterMap (·.l)++t.is.filterMap (·.l),l≠t.lf∧l≠t.li:=fun l u=>⟨fun e=>E.1 (e▸VD _ u),fun e=>J.1 (e▸u)⟩;have y:∀{z:Nat} {a:AV} {l:Nat} {rs q D:List (List AV)},WL h z a l rs D→q.length=rs.length→h'[l]?=some (.rows z (q++D) true)→WL h' z a l q D:=fun w j e=>by
  refine⟨e,?_⟩;rcases w.is' with⟨N,h2⟩|h2
  ·exact .inl ⟨N,by rw[h2,j]⟩
  exact .inr (by rw[h2];simp only[Vu,j])
 refine⟨s.c.frame fun l u=>fr l (fun e=>?_) (fun e=>?_),(fr _ (fun e=>?_) (fun e=>?_)).trans s.k,y s.f (by simp[ZaN,Jx]) F,y s.i (by simp[ZaN,Jx]) G,fun a o l e=>?_,fun a o l e=>?_,s.df,s.di⟩
 ·exact r l u t.lf (by simp) e
 ·exact r l u t.li (by simp) e
 ·exact B.1 (by rw[show(ZaN t).lk=t.lk from rfl]at e;rw[e];simp)
 ·exact B.1 (by rw[show(ZaN t).lk=t.lk from rfl]at e;rw[e];simp)
 ·have d:=pf.mem_iff.1 o;have:=ne l (L a d l e);rw[fr l this.1 this.2];exact s.fc a d l e
 have d:=H.mem_iff.1 o;have:=ne l (M a d l e);rw[fr l this.1 this.2];exact s.ic a d l e
theorem SchAt.toW{h:Za}{lt:Nat}{X:List LT}(s:SchAt h lt X):SchW h (.own lt X.length) lt (X.map LT.toW) []:=by
 have e:(X.map LT.toW).map ZZ=X.map Zn:=by rw[V8];rfl
 refine⟨by rw[e];exact .own s.tb (by simp),fun T d=>?_,?_,rfl⟩
 ·obtain⟨U,j,rfl⟩:=VE.1 d;exact(s.ht U j).toW
 have:(X.map LT.toW).flatMap LW.pl=X.flatMap LT.pl:=by rw[Pq];rfl
 rw[this];exact s.ap
theorem ZnB(n:Nat)(t:Tbl):(∀l∈Zk (Yz n t),n<l∧l<n+(Yz n t).length)∧∀b∈Yz n t,eqB (some b) (some b)=true:=by have:=ZfE [t] n;simpa[Wv]using this
theorem Znx(x:List Tbl)(n:Nat):∀l∈Zz ((XC n x).map Zn),n<l∧l<n+(Wv n x).length:=by
 intro l e;obtain⟨row,j,d⟩:=Yy e;obtain⟨T,k,rfl⟩:=VE.1 j;refine(ZfO x n).2 l (V1.2 ⟨T,k,?_⟩);simp only[Zn,Zg,locs,Vi,Vv,Ud,Vn,V3,UR]at d;simp only[LT.pl,Vn,Vg];rcases d with h|h|h|h
 ·exact .inl h
 ·exact .inr (.inl h)
 ·exact .inr (.inr (.inl h))
 exact .inr (.inr (.inr (.inl h)))
def cqX(n:Nat)(t:Tbl)(r:List Tbl):List LT:=WB n t::XC (n+(Yz n t).length+1) r
def cqH(n:Nat)(t:Tbl)(r:List Tbl):Za:=Yz n t++.rows 5 ((cqX n t r).map Zn) true::Wv (n+(Yz n t).length+1) r
def cqL(n:Nat)(t:Tbl):Nat:=n+(Yz n t).length
theorem Zpf(n:Nat)(t:Tbl)(r:List Tbl):(cqX n t r).map LT.tbl=t::r:=by simp only[cqX,Vz,ZeP,Yw]
theorem Zpm(n:Nat)(t:Tbl)(r:List Tbl):(cqX n t r).length=1+r.length:=by simp only[cqX,VC,XR];omega
theorem Zuc{t:Tbl}{r:List Tbl}{post:Za}(j:pre.length=n):SchAt (pre++(cqH n t r++post)) (cqL n t) (cqX n t r):=by
 have q:pre++(cqH n t r++post)=pre++(Yz n t++(.rows 5 ((cqX n t r).map Zn) true::(Wv (n+(Yz n t).length+1) r++post))):=by simp only[cqH,Vo,Vl]
 have w:pre++(cqH n t r++post)=(pre++(Yz n t++[.rows 5 ((cqX n t r).map Zn) true]))++(Wv (n+(Yz n t).length+1) r++post):=by simp only[cqH,Vo,Vl,Vi]
 obtain⟨y,s⟩:=ZfO r (n+(Yz n t).length+1);have u:∀l∈(WB n t).pl,n<l∧l<n+(Yz n t).length:=fun l A=>by rw[Qh,U3]at A;rw[Y0];omega
 refine⟨?_,fun T k=>?_,?_⟩
 ·rw[q];have:=gA (g:=pre++Yz n t) (N:=n+(Yz n t).length) (by simp[j]) (.rows 5 ((cqX n t r).map Zn) true::(Wv (n+(Yz n t).length+1) r++post)) 0;rw[Vo]at this;exact this
 ·rcases Vn.1 k with rfl|k
  ·rw[q];exact Zhg t _ j
  rw[w];exact Zqb r _ _ post (by simp[j];omega) T k
 simp only[cqX,US,cqL];refine Vx.2 ⟨fun d=>?_,VY.2 ⟨?_,y,fun a B b o e=>?_⟩⟩
 ·rcases Vg.1 d with d|d
  ·have:=u _ d;omega
  have:=s _ d;omega
 ·rw[Qh];exact Pn
 have:=u a B;have:=s b o;omega
theorem Zq9(n:Nat)(t:Tbl)(r:List Tbl):(∀l∈Zk (cqH n t r),n<l∧l<n+(cqH n t r).length)∧∀b∈cqH n t r,eqB (some b) (some b)=true:=by
 obtain⟨j,k⟩:=ZnB n t;obtain⟨o,q⟩:=ZfE r (n+(Yz n t).length+1);have s:(cqH n t r).length=(Yz n t).length+1+(Wv (n+(Yz n t).length+1) r).length:=by simp[cqH];omega
 refine⟨fun l e=>?_,fun b d=>?_⟩
 ·rw[s];rw[cqH,ZR]at e;rcases Vg.1 e with h|h
  ·have:=j l h;omega
  rcases Vg.1 (show l∈Zz ((cqX n t r).map Zn)++Zk (Wv (n+(Yz n t).length+1) r)from h)with h|h
  ·simp only[cqX,Vz]at h;rcases Vg.1 (show l∈Zg (Zn (WB n t))++Zz ((XC (n+(Yz n t).length+1) r).map Zn)from h)with h|h
   ·rw[Y4]at h;simp only[WA,Zg,locs,Vi,Vv,Ud,Vn,V3,UR]at h;rw[Y0];omega
   have:=Znx r _ l h;omega
  have:=o l h;omega
 rw[cqH]at d;rcases Vg.1 d with d|d
 ·exact k b d
 rcases Vn.1 d with rfl|d
 ·simp[eqB,ZmS]
 exact q b d
theorem Zkq(m n:Nat)(t:Tbl)(r:List Tbl):(cqH n t r).map (YY (ZO [] m))=cqH (m+n) t r:=by
 have e:(Yz (m+n) t).length=(Yz n t).length:=by rw[Y0,Y0]
 have d:YY (ZO [] m) (.rows 5 ((cqX n t r).map Zn) true)=.rows 5 ((cqX (m+n) t r).map Zn) true:=by simp only[YY,cqX,Vz,XN,Y4,Zat,Xd,e,UL]
 simp only[cqH,Ua,Vz,ZdQ,Xb,d,e,UL]
theorem ZjU(m n:Nat)(t:Tbl):m+cqL n t=cqL (m+n) t:=by simp only[cqL,Y0];omega
theorem Zkh(t:Tbl)(r:List Tbl)(d:(t::r).length≤1000)(hs:∀u∈t::r,SmT u):
  R K (.call 67 [ZX (t::r)] [])=some (.agg [.own (cqL 3 t) (1+r.length)],
   .cells [.rows ((t::r).map Zc)]::.cells [.own (cqL 3 t) (1+r.length)]::.cells [.own (cqL 3 t) (1+r.length)]::cqH 3 t r):=by
 have:=ZuY t r d hs (q:=cqL 3 t) rfl;rw[this];simp only[cqH,cqX,cqL,Vi,Vl]
attribute [-go_sem] Zy Zs ZH Z1 ZL Yd Z0
theorem ZyZ{h:Za}{a:AV}{rest:List AV}{rows:List (List AV)}(d:WL h 5 a l rows D)(j:h[kc]?=some (.cells (a::rest)))(hs:R K (.call 74 [a,.fn 291 []] h)=some (.tup [],h')):
  R K (.call 207 [.ptr kc 0] h)=some (.tup [],h'):=by
 have k:=d.at';rcases d.is' with⟨rfl,rfl⟩|e
 ·rw[Vv]at k;rw[Znd];simp only[go_sem,simprocAttr,f207,j,k,hs]
  done
 generalize(rows++D).length=n at e;generalize rows.length=m at e;subst e;rw[Znd];simp only[go_sem,simprocAttr,f207,j,hs]
 done
theorem Zje{h:Za}{a:AV}{rest:List AV}(s:SchW h a l W D)(e:h[kc]?=some (.cells (a::rest)))(j:Zi h.length (Zk h)=true)(k:W.length<20):
  R K (.call 207 [.ptr kc 0] h)=some (.tup [],h.set l (.rows 5 ((Ye (fun b=>b.nm) W).map ZZ++D) true)) :=
 ZyZ s.tb e (ZuU s.tb s.dd (fun T d=>⟨s.hw T d,s.notl d⟩) j k)
theorem SchAt.grow{h H:Za}{X:List LT}{k:LT}(s:SchAt h lt X)(B:H[lt]?=some (.rows 5 ((X++[k]).map Zn) true))(fr:∀l,l<h.length→l∈X.flatMap LT.pl→H[l]?=h[l]?)(r:HT H k)(y:∀l∈k.pl,h.length≤l)(C:k.pl.Nodup):SchAt H lt (X++[k]):=by
 have lo:∀T∈X,∀l∈T.pl,l<h.length:=fun T r l q=>by obtain⟨b,e,_⟩:=(s.ht T r).at q;exact(Vb.1 e).1
 refine⟨B,fun T d=>?_,?_⟩
 ·rcases Vg.1 d with j|j
  ·exact(s.ht T j).frame fun l q=>fr l (lo T j l q) (V1.2 ⟨T,j,q⟩)
  rw[VH]at j;subst j;exact r
 have A:=Vx.1 s.ap;have E:=(Vb.1 s.tb).1;rw[List.flatMap_append,List.flatMap_singleton];refine Vx.2 ⟨fun o=>?_,VY.2 ⟨A.2,C,fun a u b w e=>?_⟩⟩
 ·rcases Vg.1 o with o|o
  ·exact A.1 o
  have:=y _ o;omega
 obtain⟨T,d,u⟩:=V1.1 u;have:=lo T d a u;have:=y b w;omega
structure MadeH(h H:Za)(kc:Nat)(y:List Tbl):Prop where
 fr:H[2]?=h[2]?
 k:∃a rest,H[kc]?=some (.cells (a::rest))∧SeenX H a y∧((∃l n z rs,a=.own l n∧H[l]?=some (.rows z rs true))∨∃l n m,a=.vw l n 0 m)
abbrev kcZ(lt n:Nat)(c:Chg):List AV:=.own lt n::(Zb c++[.nilp])
theorem Wn(c:Chg):Zg (Zb c)=[]:=by simp[Zb,Zg,locs]
theorem Zb9{h:Za}{cs:List AV}(d:Zi n (Zk h)=true)(e:∀x∈Zg cs,x<n):Zi n (Zk (h.set kc (.cells cs)))=true:=ZM d (Zt.2 e)
section
variable{h:Za}{kc lt:Nat}{X:List LT}{c:Chg}
theorem Zg3(hs:SchAt h lt X)(w:Shut h)(r:h[kc]?=some (.cells (kcZ lt X.length c)))(s:c.kd=1)(d:FitX (X.map LT.tbl))(hX:X.length≤10)(M:SmT c.new)(h2:lt≠2∧kc≠2∧2<h.length):
  if 0≤ixN c.new.nm ((X.map LT.tbl).map (·.nm)) 0 then R K (.call 120 [.ptr kc 0] h)=some (I 6,h++[.cells (Zb c)])
  else ∃H,R K (.call 120 [.ptr kc 0] h)=some (I 0,H)∧MadeH h H kc (Ye (fun t=>t.nm) (X.map LT.tbl++[c.new])):=by
 have y:h.length=h.length:=rfl;have N:=(Vb.1 r).1;have O:=(Vb.1 hs.tb).1;have S:kc≠lt:=fun e=>by rw[e,hs.tb]at r;simp at r
 have nk:(kc==h.length)=false:=by rw[VR];omega
 have ca:=ZaE (X.map LT.tbl) c.new.nm d.len;have sn:=fun t=>(hs.app t).snap [.str c.new.nm] [.str c.new.nm] rfl;by_cases J:0≤ixN c.new.nm ((X.map LT.tbl).map (·.nm)) 0
 ·rw[Vr J];rw[Zal];simp only[go_sem,simprocAttr,f120,s,r,gL r,gL hs.tb,sn,ca,J,Zb,ZB,Zf,Vd,gA0 y,sA0 y,Ub,VN,VW,Vo,Vl,Vi]
 rw[Vm J];have U:=WT [c.new] (by simp) (by simpa using M);simp only[Vz,VO,XC,Wv,Y4,Vv,VC,VI,VZ]at U;have rm:(X.length+1)*113≤Zp:=by unfold Zp;omega
 have n3:h.length+1+2=h.length+3:=rfl;have n4:h.length+1+3=h.length+4:=rfl;have al:(WA (h.length+4) c.new).length=5:=rfl;generalize u:(h.set lt (.rows 5 ((X++[WB (h.length+4) c.new]).map Zn) true)).set kc (.cells (kcZ lt (X.length+1) c))=o;have Y:∀b:Blk,(h.set lt b)[kc]?=some (.cells (kcZ lt X.length c)):=fun b=>by rw[Vc S.symm];exact r
 have lS:∀b:Blk,(h.set lt b).length=h.length:=fun b=>Vq;have A:o.length=h.length:=by rw[←u];simp
 have B:o[kc]?=some (.cells (kcZ lt (X.length+1) c)):=by rw[←u,Vf (by simpa using N)]
 have Z:o[lt]?=some (.rows 5 ((X++[WB (h.length+4) c.new]).map Zn) true):=by rw[←u,Vc S,Vf O]
 have C:∀l,l≠lt→l≠kc→o[l]?=h[l]?:=fun l a b=>by rw[←u,Vc b.symm,Vc a.symm]
 generalize L:(.cells (Zb c)::.cells [.rows [Zc c.new]]::.cells [.own (h.length+3) 1]::.rows 5 [WA (h.length+4) c.new] true::Yz (h.length+4) c.new:Za)=Q;have kn:∀T∈X,kc∉T.pl:=fun T hT E=>by
  have key:∀{b:Blk},h[kc]?=some b→(∀cs,b≠.cells cs)→False:=fun{b} e q=>by rw[r]at e;cases e;exact q _ rfl
  have j:=hs.ht T hT;simp only[LT.pl,Vn,Vg,VG]at E;rcases E with e|e|e|e|⟨a,ha,e⟩|⟨a,ha,e⟩
  ·exact key (e▸j.c) fun cs=>by simp
  ·exact key (e▸j.k) fun cs=>by simp
  ·exact key (e▸j.f) fun cs=>by simp
  ·exact key (e▸j.i) fun cs=>by simp
  ·exact key (j.fc a ha kc e) fun cs=>by simp
  exact key (j.ic a ha kc e) fun cs=>by simp
 have s2:SchAt (o++Q) lt (X++[WB (h.length+4) c.new]):=by
  refine hs.grow (gL Z _) (fun l hl F=>?_) ?_ (fun l hl=>?_) ?_
  ·obtain⟨T,hT,a0⟩:=V1.1 F;rw[Vh (by omega)];exact C l (fun e=>(Vx.1 hs.ap).1 (e▸F)) (fun e=>kn T hT (e▸a0))
  ·have:=Zhg (n:=h.length+4) c.new (pre:=o++[.cells (Zb c),.cells [.rows [Zc c.new]],.cells [.own (h.length+3) 1],.rows 5 [WA (h.length+4) c.new] true]) [] (by simp[A]);rw[Vv,Vo]at this;rw[←L];exact this
  ·rw[Qh,U3]at hl;omega
  rw[Qh];exact Pn
 have uQ:Zi (o++Q).length (Zk (o++Q))=true:=by
  have lQ:(o++Q).length=h.length+4+(Yz (h.length+4) c.new).length:=by rw[←L];simp[A];omega
  rw[lQ,ZR,ZV];refine VX.2 ⟨?_,?_⟩
  ·rw[←u];refine Zb9 (ZM (Yf w.cl (by omega)) (Zt.2 fun x d=>?_)) fun x d=>?_
   ·rw[Ua,ZA,Xg]at d;rcases Vg.1 d with d|d
    ·have:x∈ZA (.rows 5 (X.map Zn) true):=d;have:=Zt.1 w.cl x (Y5 hs.tb x this);omega
    rw[Vz,VO,Y4]at d;simp only[Zz,WA,Zg,locs,Vi,Vv,Ud,Vn,V3,UR]at d;rw[Y0];omega
   have:x=lt:=by simpa[kcZ,Zg,locs,Zb]using d
   omega
  rw[←L];refine Zt.2 fun x d=>?_;have a1:x∈[h.length+3]++(Zg (WA (h.length+4) c.new)++[]++Zk (Yz (h.length+4) c.new)):=by simpa[Zk,ZA,Zg,locs,Wn,Zz]using d
  have:=(ZnB (h.length+4) c.new).1;rcases Vg.1 a1 with e|e
  ·rw[VH]at e;omega
  rcases Vg.1 e with e|e
  ·simp only[WA,Zg,locs,Vi,Vv,Ud,Vn,V3,UR]at e;rw[Y0];omega
  have:=this x e;omega
 have sw:=s2.toW;rw[Vu,VC,VI,VZ]at sw;have ks:=Zje (kc:=kc) sw (gL B _) uQ (by simp;omega);refine⟨(o++Q).set lt (.rows 5 ((Ye (fun b=>b.nm) ((X++[WB (h.length+4) c.new]).map LT.toW)).map ZZ++[]) true),?_,?_⟩
 rotate_left 1
 ·have G:=sw.sorted;have a2:=G.seen;refine⟨?_,.own lt (X.length+1),Zb c++[.nilp],?_,?_,.inl ⟨lt,X.length+1,5,_,rfl,G.tb.at'⟩⟩
  ·rw[Vc h2.1,Vh (by omega)];exact C 2 h2.1.symm h2.2.1.symm
  ·rw[Vc S.symm];exact gL B _
  have e3:(Ye (fun b:LW=>b.nm) ((X++[WB (h.length+4) c.new]).map LT.toW)).map LW.tbl=Ye (fun t=>t.nm) (X.map LT.tbl++[c.new]):=by refine(Ju LW.tbl (fun t=>t.nm) ((X++[WB (h.length+4) c.new]).map LT.toW)).symm.trans ?_;rw[V8,Ua];rw[show[WB (h.length+4) c.new].map (LW.tbl∘LT.toW)=[c.new]from by simp[Function.comp,LT.toW_tbl,ZeP]];rfl
  rw[←e3];exact a2
 subst u L;simp only[kcZ,ZX,Zb,s,Zc,Ua,Vz,VO,Y4,Vl,Vi]at ks U Y;rw[Zal];simp only[go_sem,simprocAttr,f120,s,r,gL r,gL hs.tb,sn,ca,J,U,rm,n3,n4,al,gL (Y _),sL hs.tb,sL (Y _),ks,ZdQ,Zat,Zb,ZB,Zf,Vd,gA0 y,gA y,sA0 y,Ub,VN,VW,Vo,Vl,Vi];simp only[Ua,Vz,VO,Y4,kcZ,Zb,s,Zc,Vl,Vi]
end
theorem ZcP{d:List AV}{v:Bool}(j:nlA g=(false,1))(k:ZE m (args++d)=none)(hs:Zy 8 m (args++d)=some pure)(o:R K (.call g pure [])=some (.bool v,[])):ZU nlA (R K) m args (.fn g d)=some (.bool v,m):=by have e:Zdy false m (args++d)=none:=k;have f:Zin ([]:Za)=true:=rfl;simp only[ZU,j,e,Wi,ZjC,W4,hs,o,Wa,f,V7,Z4,Zhz,ren,back,VO,Pd];simp
theorem ZfK{row cells:List AV}{c:Chg}(d:Zs (Zy 7 m) m row=some cells)(e:m[p]?=some (.cells (Zb c))):Zy 8 m [.agg row,.ptr p 0]=some [.agg cells,.rptr (Zb c) 0]:=by have j:Yd (Zb c) (Zy 7 m (Zb c))=some (Zb c):=rfl;show Zs (Zy 7 m) m _=_;simp only[Zs,ZH,d,e,j]
theorem Zlv{row:List AV}:ZE m [.agg row,.ptr p 0]=none:=Xq (a:=.ptr p 0) (by simp) rfl
theorem Zwk(c:Chg)(x:Tbl):R K (.call 205 [Yk x,.rptr (Zb c) 0] [])=some (.bool (x.nm==c.tb),[]):=by rw[Zuv];simp only[go_sem,simprocAttr,f205,Zc,Zb]
theorem ZBC(c:Chg)(x:Tbl):ZU nlA (R K) [] [Yk x] (.fn 205 [.rptr (Zb c) 0])=some (.bool (x.nm==c.tb),[]):=by have d:=Zwk c x;simp only[Yk,Zc]at d ⊢;simp only[go_sem,simprocAttr,d]
theorem ZAt(c:Chg)(a:LT)(d:HT m a)(e:m[p]?=some (.cells (Zb c))):ZU nlA (R K) m [.agg (Zn a)] (.fn 205 [.ptr p 0])=some (.bool (a.nm==c.tb),m) :=
 ZcP rfl Zlv (ZfK (d.seen.cells 6) e) (Zwk c a.tbl)
theorem ZBu{A:List LT}(o:m[l]?=some (.rows 5 (A.map Zn) true))(E:∀a∈A,HT m a∧l∉a.pl)(q:m[p]?=some (.cells (Zb c)))(u:Zi m.length (Zk m)=true)(J:A.length≤1000000){i:Nat}{T:LT}(L:ixN c.tb ((A.map LT.tbl).map (·.nm)) 0=(i:Int))(hi:A[i]?=some T):
  R K (.call 204 [.own l A.length,.fn 205 [.ptr p 0]] m) =
   some (.vw l A.length 0 (A.filter fun a=>!(a.nm==c.tb)).length,m.set l (.rows 5 ((A.filter fun a=>!(a.nm==c.tb)).map Zn++List.replicate (A.length-(A.filter fun a=>!(a.nm==c.tb)).length) [.str [],.nils,.nils,.nils,.nils]) true)):=by
 have O:=(Vb.1 o).1;have F:=(Vb.1 q).1;have G:p≠l:=fun e=>by rw[e,o]at q;simp at q
 obtain⟨M,N⟩:=Zds L;have w:∀{a:LT} (B:Blk) (t:Za),a∈A→HT (m.set l B++t) a:=fun{a} B t j=>((E a j).1.set (E a j).2 B).app t;have S:T.nm=c.tb:=by rw[Vj,Vj,hi]at M;simpa[LT.tbl]using M
 have ix:=Zhi (.fn 205 [.rptr (Zb c) 0]) [] c.tb rfl (A.map LT.tbl) (by simpa using J) (ZBC c);rw[L]at ix;have y:∀row∈A.map Zn,∃a∈A,row=Zn a:=fun row y=>by obtain⟨x,d,e⟩:=VE.1 y;exact⟨x,d,e.symm⟩
 have H:∀(b:Blk) (t:Za),(m.set l b++t)[p]?=some (.cells (Zb c)):=fun b t=>gL (by rw[Vc G.symm];exact q) t;have key:=Zzs .kT (h:=m) (lc:=l) (n:=A.length) (f:=.fn 205 [.ptr p 0]) (rs:=A.map Zn) (pb:=Zm0 c.tb) (pure:=[.rows ((A.map LT.tbl).map Zc),.fn 205 [.rptr (Zb c) 0]]) (m:=i) (row0:=Zn T)
  o (by simp) J (by simp[locs,Zg,Zi,F]) (fun row h=>by obtain⟨a,_,rfl⟩:=y row h;exact⟨rfl,rfl⟩)
  (fun b t row h=>by obtain⟨a,j,rfl⟩:=y row h;exact .inr (Xq (a:=.own a.lk a.key.length) (by simp[Zn]) (Zb0 (w b t j).k)))
  (fun R' U=>ZM u (Zt.2 fun x d=>by obtain⟨row,C,d⟩:=Yy (show x∈Zz R' from d);have:x∈ZA (.rows 5 (A.map Zn) true):=YH (U row C) x d;exact Zt.1 u x (Y5 o x this)))
  (fun b t row h=>by obtain⟨a,j,rfl⟩:=y row h;exact ZAt c a (w b t j) (H b t))
  (by
   have Y:ZH (Zy 7 m) m (.own l A.length)=some (.rows ((A.map LT.tbl).map Zc)):=by have s:SeenX m (.own l A.length) (A.map LT.tbl):=⟨_,.own l 5 _ _ true o (by simp),Both.map fun T Z=>(E T Z).1.seen⟩;exact s.snap 5
   have e5:Yd (Zb c) (Zy 7 m (Zb c))=some (Zb c):=rfl;have e6:ZH (Zy 7 m) m (.fn 205 [.ptr p 0])=some (.fn 205 [.rptr (Zb c) 0]):=by simp only[ZH,Zs,q,e5]
   show Zs (Zy 7 m) m _=_;simp only[Zs,Y,e6])
  (by exact ix) (by rw[Vj,hi];rfl) (by show(T.nm==c.tb)=true;simpa using S)
  (fun row h=>by rw[←UV]at h;obtain⟨x,d,rfl⟩:=VE.1 h;show(x.nm==c.tb)=false;rw[VR];intro e;rw[←UV,←UV]at N;exact N (VE.2 ⟨x.tbl,VE.2 ⟨x,d,rfl⟩,e⟩))
 simp only[Kd.zz,Kd.fn,Kd.ix,Kd.zr]at key;have ef:(A.map Zn).filter (fun r=>!Zm0 c.tb r)=(A.filter fun a=>!(a.nm==c.tb)).map Zn:=by rw[SC];rfl
 rw[ef,Vd]at key;exact key
theorem Zuz(c:Chg)(x:Idx):R K (.call 70 [Qe x,.rptr (Zb c) 0] [])=some (.bool (x.nm==c.nm),[]):=by rw[Zxu];simp only[go_sem,simprocAttr,f70,Yq,Zb]
theorem ZAw(c:Chg)(x:Idx):ZU nlA (R K) [] [Qe x] (.fn 70 [.rptr (Zb c) 0])=some (.bool (x.nm==c.nm),[]):=by have d:=Zuz c x;simp only[Qe,Yq]at d ⊢;simp only[go_sem,simprocAttr,d]
theorem ZAP(c:Chg)(a:LI)(d:∀q,a.l=some q→m[q]?=some (.rows 1 (SLs a.x.cols) true))(j:m[p]?=some (.cells (Zb c))):ZU nlA (R K) m [.agg (ZJ a)] (.fn 70 [.ptr p 0])=some (.bool (a.x.nm==c.nm),m):=by
 have e:=(YG d).names (f:=Zy 7 m);have es:Zs (Zy 7 m) m (ZJ a)=some (Yq a.x):=by simp only[ZJ,Zs,ZH,e,Yq]
 exact ZcP rfl Zlv (ZfK es j) (Zuz c a.x)
theorem ZBD{A:List LI}(k:m[l]?=some (.rows 3 (A.map ZJ) true))(C:∀a∈A,∀q,a.l=some q→q≠l∧m[q]?=some (.rows 1 (SLs a.x.cols) true))(o:m[p]?=some (.cells (Zb c)))(s:Zi m.length (Zk m)=true)(H:A.length≤1000000){i:Nat}{T:LI}(J:ixN c.nm (A.map fun a=>a.x.nm) 0=(i:Int))(hi:A[i]?=some T):
  R K (.call 69 [.own l A.length,.fn 70 [.ptr p 0]] m) =
   some (.vw l A.length 0 (A.filter fun a=>!(a.x.nm==c.nm)).length,m.set l (.rows 3 ((A.filter fun a=>!(a.x.nm==c.nm)).map ZJ++List.replicate (A.length-(A.filter fun a=>!(a.x.nm==c.nm)).length) [.str [],.nils,.bool false]) true)):=by
 have N:=(Vb.1 k).1;have E:=(Vb.1 o).1;have F:p≠l:=fun e=>by rw[e,k]at o;simp at o
 obtain⟨L,M⟩:=Zds J;have u:∀{a:LI} (B:Blk) (t:Za),a∈A→∀q,a.l=some q→(m.set l B++t)[q]?=some (.rows 1 (SLs a.x.cols) true):=fun{a} B t d q e=>gL (by rw[Vc (C a d q e).1.symm];exact(C a d q e).2) t;have O:(T.x.nm)=c.nm:=by rw[Vj,hi]at L;simpa using L
 have ix:=ZkW (.fn 70 [.rptr (Zb c) 0]) [] (fun x=>x.nm==c.nm) rfl (A.map fun a=>a.x) (by simpa using H) (fun x _=>ZAw c x);have S:ixA (fun x:Idx=>x.nm==c.nm) (A.map fun a=>a.x) 0=(i:Int):=by rw[Zgm (fun x:Idx=>x.nm),V8];exact J
 rw[S]at ix;have w:∀row∈A.map ZJ,∃a∈A,row=ZJ a:=fun row w=>by obtain⟨x,j,e⟩:=VE.1 w;exact⟨x,j,e.symm⟩
 have G:∀(b:Blk) (t:Za),(m.set l b++t)[p]?=some (.cells (Zb c)):=fun b t=>gL (by rw[Vc F.symm];exact o) t;have key:=Zzs .kI (h:=m) (lc:=l) (n:=A.length) (f:=.fn 70 [.ptr p 0]) (rs:=A.map ZJ) (pb:=Zm0 c.nm) (pure:=[.rows ((A.map fun a=>a.x).map Yq),.fn 70 [.rptr (Zb c) 0]]) (m:=i) (row0:=ZJ T)
  k (by simp) H (by simp[locs,Zg,Zi,E]) (fun row h=>by obtain⟨a,_,rfl⟩:=w row h;cases e:a.l<;>simp[ZJ,Yc,e,singles,single,Kd.zz])
  (fun b t row h=>by
   obtain⟨a,d,rfl⟩:=w row h;cases e:a.l with
   |none=>exact .inl (by simp[ZJ,Yc,e,ZE,ZI])
   |some q=>exact .inr (by simp[ZJ,Yc,e,ZE,ZI,u b t d q e]))
  (fun R' U=>ZM s (Zt.2 fun x j=>by obtain⟨row,y,j⟩:=Yy (show x∈Zz R' from j);have:x∈ZA (.rows 3 (A.map ZJ) true):=YH (U row y) x j;exact Zt.1 s x (Y5 k x this)))
  (fun b t row h=>by obtain⟨a,d,rfl⟩:=w row h;exact ZAP c a (u b t d) (G b t))
  (by
   have Y:ZH (Zy 7 m) m (.own l A.length)=some (.rows ((A.map fun a=>a.x).map Yq)) :=
    (Lst.own (h:=m) l 3 A.length _ true k (by simp)).snap (Q4 (fun _ _ r=>SeenI.ok 6 r) (fun _ _ r e=>SeenI.pure r e) (Both.map fun a d=>⟨_,rfl,YG fun q e=>(C a d q e).2⟩))
   have Z:Yd (Zb c) (Zy 7 m (Zb c))=some (Zb c):=rfl;have e6:ZH (Zy 7 m) m (.fn 70 [.ptr p 0])=some (.fn 70 [.rptr (Zb c) 0]):=by simp only[ZH,Zs,o,Z]
   show Zs (Zy 7 m) m _=_;simp only[Zs,Y,e6])
  (by exact ix) (by rw[Vj,hi];rfl) (by show((T.x.nm)==c.nm)=true;simpa using O)
  (fun row h=>by rw[←UV]at h;obtain⟨x,j,rfl⟩:=VE.1 h;show((x.x.nm)==c.nm)=false;rw[VR];intro e;rw[←UV]at M;exact M (VE.2 ⟨x,j,e⟩))
 simp only[Kd.zz,Kd.fn,Kd.ix,Kd.zr]at key;have ef:(A.map ZJ).filter (fun r=>!Zm0 c.nm r)=(A.filter fun a=>!(a.x.nm==c.nm)).map ZJ:=by rw[SC];rfl
 rw[ef,Vd]at key;exact key
theorem Zvr(c:Chg)(x:Fgn):R K (.call 72 [Wm x,.rptr (Zb c) 0] [])=some (.bool (x.nm==c.nm),[]):=by rw[ZxO];simp only[go_sem,simprocAttr,f72,Z7,Zb]
theorem ZBa(c:Chg)(x:Fgn):ZU nlA (R K) [] [Wm x] (.fn 72 [.rptr (Zb c) 0])=some (.bool (x.nm==c.nm),[]):=by have d:=Zvr c x;simp only[Wm,Z7]at d ⊢;simp only[go_sem,simprocAttr,d]
theorem ZBE(c:Chg)(a:LF)(d:∀q,a.l=some q→m[q]?=some (.rows 1 (SLs a.f.cols) true))(j:m[p]?=some (.cells (Zb c))):ZU nlA (R K) m [.agg (ZF a)] (.fn 72 [.ptr p 0])=some (.bool (a.f.nm==c.nm),m):=by
 have e:=(YG d).names (f:=Zy 7 m);have es:Zs (Zy 7 m) m (ZF a)=some (Z7 a.f):=by simp only[ZF,Zs,ZH,e,Z7]
 exact ZcP rfl Zlv (ZfK es j) (Zvr c a.f)
theorem ZAY{A:List LF}(k:m[l]?=some (.rows 3 (A.map ZF) true))(C:∀a∈A,∀q,a.l=some q→q≠l∧m[q]?=some (.rows 1 (SLs a.f.cols) true))(o:m[p]?=some (.cells (Zb c)))(s:Zi m.length (Zk m)=true)(H:A.length≤1000000){i:Nat}{T:LF}(J:ixN c.nm (A.map fun a=>a.f.nm) 0=(i:Int))(hi:A[i]?=some T):
  R K (.call 71 [.own l A.length,.fn 72 [.ptr p 0]] m) =
   some (.vw l A.length 0 (A.filter fun a=>!(a.f.nm==c.nm)).length,m.set l (.rows 3 ((A.filter fun a=>!(a.f.nm==c.nm)).map ZF++List.replicate (A.length-(A.filter fun a=>!(a.f.nm==c.nm)).length) [.str [],.nils,.str []]) true)):=by
 have N:=(Vb.1 k).1;have E:=(Vb.1 o).1;have F:p≠l:=fun e=>by rw[e,k]at o;simp at o
 obtain⟨L,M⟩:=Zds J;have u:∀{a:LF} (B:Blk) (t:Za),a∈A→∀q,a.l=some q→(m.set l B++t)[q]?=some (.rows 1 (SLs a.f.cols) true):=fun{a} B t d q e=>gL (by rw[Vc (C a d q e).1.symm];exact(C a d q e).2) t;have O:(T.f.nm)=c.nm:=by rw[Vj,hi]at L;simpa using L
 have ix:=Zmm (.fn 72 [.rptr (Zb c) 0]) [] (fun x=>x.nm==c.nm) rfl (A.map fun a=>a.f) (by simpa using H) (fun x _=>ZBa c x);have S:ixA (fun x:Fgn=>x.nm==c.nm) (A.map fun a=>a.f) 0=(i:Int):=by rw[Zgm (fun x:Fgn=>x.nm),V8];exact J
 rw[S]at ix;have w:∀row∈A.map ZF,∃a∈A,row=ZF a:=fun row w=>by obtain⟨x,j,e⟩:=VE.1 w;exact⟨x,j,e.symm⟩
 have G:∀(b:Blk) (t:Za),(m.set l b++t)[p]?=some (.cells (Zb c)):=fun b t=>gL (by rw[Vc F.symm];exact o) t;have key:=Zzs .kF (h:=m) (lc:=l) (n:=A.length) (f:=.fn 72 [.ptr p 0]) (rs:=A.map ZF) (pb:=Zm0 c.nm) (pure:=[.rows ((A.map fun a=>a.f).map Z7),.fn 72 [.rptr (Zb c) 0]]) (m:=i) (row0:=ZF T)
  k (by simp) H (by simp[locs,Zg,Zi,E]) (fun row h=>by obtain⟨a,_,rfl⟩:=w row h;cases e:a.l<;>simp[ZF,Yc,e,singles,single,Kd.zz])
  (fun b t row h=>by
   obtain⟨a,d,rfl⟩:=w row h;cases e:a.l with
   |none=>exact .inl (by simp[ZF,Yc,e,ZE,ZI])
   |some q=>exact .inr (by simp[ZF,Yc,e,ZE,ZI,u b t d q e]))
  (fun R' U=>ZM s (Zt.2 fun x j=>by obtain⟨row,y,j⟩:=Yy (show x∈Zz R' from j);have:x∈ZA (.rows 3 (A.map ZF) true):=YH (U row y) x j;exact Zt.1 s x (Y5 k x this)))
  (fun b t row h=>by obtain⟨a,d,rfl⟩:=w row h;exact ZBE c a (u b t d) (G b t))
  (by
   have Y:ZH (Zy 7 m) m (.own l A.length)=some (.rows ((A.map fun a=>a.f).map Z7)) :=
    (Lst.own (h:=m) l 3 A.length _ true k (by simp)).snap (Q4 (fun _ _ r=>SeenF.ok 6 r) (fun _ _ r e=>SeenF.pure r e) (Both.map fun a d=>⟨_,rfl,YG fun q e=>(C a d q e).2⟩))
   have Z:Yd (Zb c) (Zy 7 m (Zb c))=some (Zb c):=rfl;have e6:ZH (Zy 7 m) m (.fn 72 [.ptr p 0])=some (.fn 72 [.rptr (Zb c) 0]):=by simp only[ZH,Zs,o,Z]
   show Zs (Zy 7 m) m _=_;simp only[Zs,Y,e6])
  (by exact ix) (by rw[Vj,hi];rfl) (by show((T.f.nm)==c.nm)=true;simpa using O)
  (fun row h=>by rw[←UV]at h;obtain⟨x,j,rfl⟩:=VE.1 h;show((x.f.nm)==c.nm)=false;rw[VR];intro e;rw[←UV]at M;exact M (VE.2 ⟨x,j,e⟩))
 simp only[Kd.zz,Kd.fn,Kd.ix,Kd.zr]at key;have ef:(A.map ZF).filter (fun r=>!Zm0 c.nm r)=(A.filter fun a=>!(a.f.nm==c.nm)).map ZF:=by rw[SC];rfl
 rw[ef,Vd]at key;exact key
attribute [-go_sem] ZN
theorem Znp(f:α→List β):∀{l l':List α},l'.Sublist l→(l'.flatMap f).Sublist (l.flatMap f):=fun{l l'} h=>by
 induction h with
 |slnil=>exact SJ _
 |cons a _ d=>exact d.trans (Pa _ _)
 |cons_cons a _ d=>exact(SJ _).append d
theorem ZiH:∀X:List LT,(X.map (·.lf)).Sublist (X.flatMap LT.pl)
 |[]=>SJ _
 |T::X=>by
  have d:[T.lf].Sublist T.pl:=by simp only[LT.pl];exact .cons _ (.cons _ (.cons_cons _ (List.nil_sublist _)))
  have:=d.append (ZiH X);simpa using this
theorem SchAt.kn{h:Za}{X:List LT}{cs:List AV}(hs:SchAt h lt X)(o:h[kc]?=some (.cells cs)):kc≠lt∧∀T∈X,kc∉T.pl:=by
 refine⟨fun e=>by rw[e,hs.tb]at o;simp at o,fun T s j=>?_⟩;have key:∀{b:Blk},h[kc]?=some b→(∀cs,b≠.cells cs)→False:=fun{b} e q=>by rw[o]at e;cases e;exact q _ rfl
 have d:=hs.ht T s;simp only[LT.pl,Vn,Vg,VG]at j;rcases j with e|e|e|e|⟨a,r,e⟩|⟨a,r,e⟩
 ·exact key (e▸d.c) fun cs=>by simp
 ·exact key (e▸d.k) fun cs=>by simp
 ·exact key (e▸d.f) fun cs=>by simp
 ·exact key (e▸d.i) fun cs=>by simp
 ·exact key (d.fc a r kc e) fun cs=>by simp
 exact key (d.ic a r kc e) fun cs=>by simp
theorem SchAt.lo{h:Za}{X:List LT}(hs:SchAt h lt X):∀T∈X,∀l∈T.pl,l<h.length:=fun T d l j=>by obtain⟨b,e,_⟩:=(hs.ht T d).at j;exact(Vb.1 e).1
theorem SchAt.ne{h:Za}{X:List LT}(hs:SchAt h lt X){T:LT}(d:T∈X):lt∉T.pl:=fun e=>(Vx.1 hs.ap).1 (V1.2 ⟨T,d,e⟩)
section
variable{h:Za}{kc lt i:Nat}{X:List LT}{T:LT}{c:Chg}
theorem Zjx(hs:SchAt h lt X)(q:Shut h)(r:h[kc]?=some (.cells (kcC lt X.length i c)))(hi:X[i]?=some T)(s:c.kd=2)(k:FitX (X.map LT.tbl))(hX:X.length≤10)(h0:ixN c.tb ((X.map LT.tbl).map (·.nm)) 0=(i:Int))(h2:lt≠2∧kc≠2∧2<h.length):
  if ZiV (X.map LT.tbl) c.tb c.tb=true then R K (.call 120 [.ptr kc 0] h)=some (I 11,h++[.cells (Zb c)])
  else ∃H,R K (.call 120 [.ptr kc 0] h)=some (I 0,H)∧MadeH h H kc (Ye (fun t=>t.nm) ((X.map LT.tbl).filter fun t=>!(t.nm==c.tb))):=by
 have y:h.length=h.length:=rfl;have L:=(Vb.1 r).1;have M:=(Vb.1 hs.tb).1;obtain⟨N,kn⟩:=hs.kn r;have nk:(kc==h.length)=false:=by rw[VR];omega
 have hT:=hs.ht T (Ve hi);have sk:=fun t=>(hs.app t).snapK (gL r t) hi [.str c.tb] [.str c.tb] rfl;have J:=ZhG (X.map LT.tbl) k c T.tbl c.tb;have hS:=q.add (Zdf c) (ZbO c);cases hr:ZiV (X.map LT.tbl) c.tb c.tb with
 |true =>
  rw[hr]at J;rw[Vr rfl];rw[Zal];simp only[go_sem,simprocAttr,f120,s,r,sk,J,Zb,gA0 y,sA0 y,Vo,Vl,Vi]
 |false =>
  rw[hr]at J;rw[Vm (by simp)];generalize O:(X.filter fun a=>!(a.nm==c.tb))=F;have j:F.Sublist X:=by rw[←O];exact SO
  have a3:F.length≤X.length:=j.length_le;generalize S:(List.replicate (X.length-F.length) [AV.str [],.nils,.nils,.nils,.nils]:List (List AV))=D;have Y:D.length=X.length-F.length:=by rw[←S];simp
  have C:Zz D=[]:=by rw[←S];exact Zbq fun row d=>by rw[SK d];rfl
  have dl:=ZBu (m:=h++[.cells (Zb c)]) (p:=h.length) (l:=lt) (A:=X) (c:=c) (i:=i) (T:=T) (gL hs.tb _) (fun a ha=>⟨(hs.ht a ha).app _,hs.ne ha⟩) (gA0 y _) hS.cl (by omega) h0 hi;rw[O,S,sL hs.tb]at dl;generalize hB:Blk.rows 5 (F.map Zn++D) true=B at *;generalize w:(h.set lt B).set kc (.cells (.vw lt X.length 0 F.length::(Zb c++[.optr lt X.length i 0])))=o;have Z:(h.set lt B)[kc]?=some (.cells (kcC lt X.length i c)):=by rw[Vc N.symm];exact r
  have lS:(h.set lt B).length=h.length:=Vq;have a0:o.length=h.length:=by rw[←w];simp
  have E:o[kc]?=some (.cells (.vw lt X.length 0 F.length::(Zb c++[.optr lt X.length i 0]))):=by rw[←w,Vf (by simpa using L)]
  have a1:o[lt]?=some B:=by rw[←w,Vc N,Vf M]
  have G:∀l,l≠lt→l≠kc→o[l]?=h[l]?:=fun l a b=>by rw[←w,Vc b.symm,Vc a.symm]
  have sw:SchW (o++[.cells (Zb c)]) (.vw lt X.length 0 F.length) lt (F.map LT.toW) D:=by
   have er:(F.map LT.toW).map ZZ=F.map Zn:=by rw[V8];rfl
   refine⟨⟨?_,.inr ?_⟩,fun U hU=>?_,?_,C⟩
   ·rw[er,gL a1,←hB]
   ·rw[er,Vu,Vd,Y,show F.length+(X.length-F.length)=X.length by omega]
   ·obtain⟨V,hV,rfl⟩:=VE.1 hU;have u:=j.subset hV;exact(((hs.ht V u).frame fun l hl=>G l (fun e=>hs.ne u (e▸hl)) (fun e=>kn V u (e▸hl))).app _).toW
   have:(F.map LT.toW).flatMap LW.pl=F.flatMap LT.pl:=by rw[Pq];rfl
   rw[this];exact U7 ((Znp LT.pl j).cons_cons lt) hs.ap
  have uQ:Zi (o++[Blk.cells (Zb c)]).length (Zk (o++[Blk.cells (Zb c)]))=true:=by
   rw[ZR,ZV,Vu,a0];refine VX.2 ⟨?_,by simp[Zk,ZA,Wn,Zi]⟩;rw[←w];refine Zb9 (ZM (Yf q.cl (by omega)) (Zt.2 fun x k=>?_)) fun x k=>?_
   ·rw[←hB,ZA,Xg,C,Vv]at k;obtain⟨row,d,k⟩:=Yy k;obtain⟨U,hU,rfl⟩:=VE.1 d;have:x∈ZA (.rows 5 (X.map Zn) true):=YH (VE.2 ⟨U,j.subset hU,rfl⟩) x k;have:=Zt.1 q.cl x (Y5 hs.tb x this);omega
   have:x=lt:=by simpa[Zg,locs,Zb]using k
   omega
  have ks:=Zje (kc:=kc) sw (gL E _) uQ (by simp;omega);refine⟨(o++[Blk.cells (Zb c)]).set lt (.rows 5 ((Ye (fun b=>b.nm) (F.map LT.toW)).map ZZ++D) true),?_,?_⟩
  rotate_left 1
  ·have a2:=sw.sorted;refine⟨?_,.vw lt X.length 0 F.length,Zb c++[.optr lt X.length i 0],?_,?_,.inr ⟨lt,X.length,F.length,rfl⟩⟩
   ·rw[Vc h2.1,Vh (by omega)];exact G 2 h2.1.symm h2.2.1.symm
   ·rw[Vc N.symm];exact gL E _
   have e3:(Ye (fun b:LW=>b.nm) (F.map LT.toW)).map LW.tbl=Ye (fun t=>t.nm) ((X.map LT.tbl).filter fun t=>!(t.nm==c.tb)):=by refine(Ju LW.tbl (fun t=>t.nm) (F.map LT.toW)).symm.trans ?_;rw[V8,←O,SC];rfl
   rw[←e3];exact a2.seen
  subst w;simp only[Zb,s,Vl,Vi]at dl ks Z;rw[Zal];simp only[go_sem,simprocAttr,f120,s,r,gL r,gL hs.tb,sk,J,dl,ks,gL Z,sL Z,Zb,Vd,gA0 y,sA0 y,Vo,Vl,Vi]
end
def LT.ren(t:LT)(n:List UInt8):LT:={t with nm:=n}
def LT.re(o n:List UInt8)(t:LT):LT:={t with fs:=t.fs.map (reL o n)}
theorem LT.re_row(o n:List UInt8)(t:LT):Zn (t.re o n)=Zn t:=by simp[LT.re,Zn]
theorem LT.re_pl(o n:List UInt8)(t:LT):(t.re o n).pl=t.pl:=by
 have e:∀l:List LF,(l.map (reL o n)).filterMap (·.l)=l.filterMap (·.l):=fun l=>by rw[List.filterMap_map];rfl
 simp only[LT.re,LT.pl,e]
theorem LT.re_tbl(o n:List UInt8)(t:LT):(t.re o n).tbl=reT o n t.tbl:=by simp only[LT.re,LT.tbl,reT,V8];rfl
theorem SchAt.re{g g':Za}{lt:Nat}{X:List LT}{o n:List UInt8}(s:SchAt g lt X)(fr:∀l,l∉X.map (·.lf)→g'[l]?=g[l]?)(F:∀T∈X,g'[T.lf]?=some (.rows 3 ((T.fs.map (reL o n)).map ZF) true)):SchAt g' lt (X.map (LT.re o n)):=by
 have G:(X.map (LT.re o n)).map Zn=X.map Zn:=by rw[V8];exact Ul fun T _=>LT.re_row o n T
 have H:(X.map (LT.re o n)).flatMap LT.pl=X.flatMap LT.pl:=by rw[Pq];congr 1;funext T;exact LT.re_pl o n T
 have E:=Vx.1 s.ap;have w:∀{l},l∈X.map (·.lf)→l∈X.flatMap LT.pl:=fun h=>(ZiH X).subset h;refine⟨by rw[G];exact(fr lt fun h=>E.1 (w h)).trans s.tb,fun U J=>?_,by rw[H];exact s.ap⟩;obtain⟨T,r,rfl⟩:=VE.1 J;have hh:=s.ht T r;obtain⟨i,hi⟩:=Uf.1 r;have j:∀l,l∈T.pl→l≠T.lf→l∉X.map (·.lf):=fun l L y M=>by
  obtain⟨V,N,e⟩:=VE.1 M;obtain⟨k,B⟩:=Uf.1 N;by_cases h:i=k
  ·subst h;rw[hi]at B;cases B;exact y e.symm
  have:=(s.notIn hi B h V.lf (by simp[LT.pl])).2;exact this (by rw[e];exact L)
 have O:T.pl.Nodup:=by
  have key:∀{Y:List LT},(Y.flatMap LT.pl).Nodup→∀T∈Y,T.pl.Nodup:=fun{Y}=>by
   induction Y with
   |nil=>intro _ T h;simp at h
   |cons A Y S =>
    intro u T r;rw[US,VY]at u;rcases Vn.1 r with rfl|r
    ·exact u.1
    exact S u.2.1 T r
  exact key E.2 T r
 have d:=O;simp only[LT.pl,Vx,Vn,Vg,So]at d;have mf:∀a∈T.fs,∀l,a.l=some l→l∈T.fs.filterMap (·.l):=fun a q l e=>VG.2 ⟨a,q,e⟩;have mi:∀a∈T.is,∀l,a.l=some l→l∈T.is.filterMap (·.l):=fun a q l e=>VG.2 ⟨a,q,e⟩;refine⟨(fr _ (j _ (by simp[LT.pl,LT.re]) ?_)).trans hh.c,(fr _ (j _ (by simp[LT.pl,LT.re]) ?_)).trans hh.k,F T r,(fr _ (j _ (by simp[LT.pl,LT.re]) ?_)).trans hh.i,fun a q l e=>?_,fun a q l e=>?_⟩
 ·exact d.1.2.1
 ·exact d.2.1.1
 ·exact fun e=>d.2.2.1.1 e.symm
 ·obtain⟨b,C,rfl⟩:=VE.1 q;have Z:(reL o n b).f.cols=b.f.cols:=by simp only[reL,reF];split<;>rfl
  rw[Z];exact(fr l (j l (by simp only[LT.pl,Vn,Vg];exact .inr (.inr (.inr (.inr (.inl (mf b C l e)))))) fun h=>d.2.2.1.2.1 (h▸mf b C l e))).trans (hh.fc b C l e)
 exact(fr l (j l (by simp only[LT.pl,Vn,Vg];exact .inr (.inr (.inr (.inr (.inr (mi a q l e)))))) fun h=>d.2.2.1.2.2 (h▸mi a q l e))).trans (hh.ic a q l e)
theorem SchAt.renamed{h:Za}{X:List LT}{T:LT}(s:SchAt h lt X)(hi:X[i]?=some T)(n:List UInt8):SchAt (h.set lt (.rows 5 ((X.map Zn).set i [.str n,.own T.lc T.cols.length,.own T.lk T.key.length,.own T.lf T.fs.length,.own T.li T.is.length]) true)) lt (X.set i (T.ren n)):=by
 have e:=(Vb.1 s.tb).1;have j:(X.set i (T.ren n)).map Zn=(X.map Zn).set i [.str n,.own T.lc T.cols.length,.own T.lk T.key.length,.own T.lf T.fs.length,.own T.li T.is.length]:=by rw[V9];rfl
 refine⟨by rw[j];exact Vf e,fun U d=>?_,(PA ((Zfs LT.pl X i T (T.ren n) hi (UU _)).cons lt)).2 s.ap⟩;rcases VL d with d|rfl
 ·exact(s.ht U d).set (s.ne d) _
 have:=(s.ht T (Ve hi)).set (s.ne (Ve hi)) (.rows 5 ((X.map Zn).set i [.str n,.own T.lc T.cols.length,.own T.lk T.key.length,.own T.lf T.fs.length,.own T.li T.is.length]) true);exact⟨this.c,this.k,this.f,this.i,this.fc,this.ic⟩
theorem ZnH{X:List LT}{T:LT}{o n:List UInt8}:((X.set i (T.ren n)).map (LT.re o n)).map LT.tbl=((X.map LT.tbl).set i ⟨n,T.tbl.cols,T.tbl.key,T.tbl.fgn,T.tbl.idx⟩).map (reT o n):=by
 have e:(X.map (LT.re o n)).map LT.tbl=(X.map LT.tbl).map (reT o n):=by rw[V8,V8];exact Ul fun U _=>LT.re_tbl o n U
 simp only[V9,e,LT.re_tbl];rfl
end Go.Ab
