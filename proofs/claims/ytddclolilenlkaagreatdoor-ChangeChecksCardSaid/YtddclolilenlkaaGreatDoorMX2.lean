/- What is proved: contracts of the program's and the reference's functions in the evaluator, and plain laws on them. Conditions: as each states. -/
import Derived.Test.YtddclolilenlkaaGreatDoorMX1
set_option linter.unusedSimpArgs false
set_option linter.unusedSectionVars false
set_option linter.unusedVariables false
set_option maxRecDepth 100000
namespace Go.Ab
open Go Go.Proofs
variable{b cap i j l m n o p z:Nat}{M:Nat→Nat→Prop}{kk:KK}{src v vk vx vy:Value}{ms:List MapEntry}{a r y:AV}{T e t ty u:TypeId}{s:Sem Value}{rest vs:Array Value}{h' h1 h2 hs:Za}{w':World}{f:Operand}{g:FuncId}{args:List AV}{c:Call}{F:Tk→Res}{C:Cfg}{rs ys:List (List AV)}{fl fy:List Value}{base:Option Addr}{wq wr:Bool}{at_:Array TypeId}{ls:List Nat}
section
variable{Bs:World→Prop}
variable{P:Program}{μ:Mp Bs}{h:Za}{w:World}
theorem Zji{α:Type}{m:α}(f:α→α):∀(l:List α) (i:Nat),l[i]?=some m→(l.modify i f).Perm (f m::l.eraseIdx i)
 |[],i,h=>by simp at h
 |a::l,0,h=>by simp only[Vt,Va]at h;subst h;exact UU _
 |a::l,i+1,h=>by simp only[VJ]at h;simp only[SQ,List.modify_succ_cons];exact((Zji f l i h).cons a).trans (List.Perm.swap _ _ _)
theorem Zw2{α:Type}{m:α}(f:α→α){l l':List α}(d:l.Perm l')(h1:l[i]?=some m)(h2:l'[j]?=some m):(l.modify i f).Perm (l'.modify j f):=by have h3:(l.eraseIdx i).Perm (l'.eraseIdx j):=((ZkT l i h1).symm.trans (d.trans (ZkT l' j h2))).cons_inv;exact(Zji f l i h1).trans ((h3.cons _).trans (Zji f l' j h2).symm)
def Zfd(M:Nat→Nat→Prop)(w:World)(es:List (AV×AV))(ms:List MapEntry)(vk:Value):Option (Nat×AV)→Option (Nat×Value)→Prop
 |none,r=>r=none
 |some (i,a),r=>∃j m,ms[j]?=some m∧r=some (j,m.val)∧PRep M w a m.val∧m.key=vk∧(∃k',es[i]?=some (k',a)∧PRep M w k' vk) ∧
   ∃ms',ms'.Perm ms∧ms'[i]?=some m∧EntRep M w es ms'
theorem Zsk{i:IntKind}{k:AV}{es:List (AV×AV)}{r:Option (Nat×AV)}(U:PRep M w k vk)(he:EntSet M w es ms)(e:JA kk k es 0=some r):
  ∃r',Instr.findNow (Zd4 kk i) vk ms 0=some r'∧Zfd M w es ms vk r r':=by
 obtain⟨O,B,d,A⟩:=he;cases r with
 |none =>
  have h1:=Zgg es 0 e;refine⟨none,Znt ms 0 fun m L=>?_,rfl⟩;obtain⟨j,W⟩:=Uf.1 (d.mem_iff.2 L);obtain⟨p,X,h2,_⟩:=(EntRep.at es B j A).2 m W;exact(J4 (i:=i) (h1 p (Ve X)) U h2).1
 |some q =>
  obtain⟨n,a⟩:=q;obtain⟨_,k',G,hq⟩:=Zdi es 0 e;simp only[V4]at G;obtain⟨m,L,h2,h3⟩:=(EntRep.at es B n A).1 _ G;obtain⟨h4,h5,_⟩:=J4 (i:=i) hq U h2;have other:∀j E,B[j]?=some E→j≠n→Instr.sameNow (Zd4 kk i) vk E.key=some false:=fun j E W Y=>by
   obtain⟨p,X,h6,_⟩:=(EntRep.at es B j A).2 E W;refine(J4 (i:=i) (ZnU hq ?_) U h6).1;have e1:(es.map (·.1))[n]?=some k':=by simp[G]
   have e2:(es.map (·.1))[j]?=some p.1:=by simp[X]
   rcases Sy Y with J|J
   ·right;obtain⟨Z,N⟩:=Vb.1 e2;obtain⟨q2,Q⟩:=Vb.1 e1;have:=(UI.1 O) j n Z q2 J
    rwa [N,Q]at this
   left;obtain⟨Z,N⟩:=Vb.1 e1;obtain⟨q2,Q⟩:=Vb.1 e2;have:=(UI.1 O) n j Z q2 J
   rwa [N,Q]at this
  obtain⟨j,E,N,Q,g3⟩:=Zn0 (desc:=Zd4 kk i) (vk:=vk) ms 0 (fun m3 a0=>by
   obtain⟨l,H⟩:=Uf.1 (d.mem_iff.2 a0);by_cases D:l=n
   ·subst D;rw[L]at H;simp only[Va]at H;subst H;exact⟨_,h4⟩
   exact⟨_,other l m3 H D⟩) ⟨m,d.mem_iff.1 (Ve L),h4⟩
  have a1:E=m:=by
   obtain⟨l,H⟩:=Uf.1 (d.mem_iff.2 (Ve N));by_cases D:l=n
   ·subst D;rw[L]at H;exact(Ux H).symm
   have:=other l E H D;rw[Q]at this;simp at this
  subst a1;rw[VZ]at g3;have S:E.key=vk:=(h5 rfl).1;exact⟨some (j,E.val),g3,j,E,N,rfl,h3,S,⟨k',G,by rw[←S];exact h2⟩,B,d,L,A⟩
theorem Zy2(d:ZoZ P kk t)(k:∀n,kk≠.arr n):∃i,P.underlying t=some (Zd4 kk i):=by
 cases kk with
 |int=>obtain⟨i,hi⟩:=d;exact⟨i,hi⟩
 |str=>exact⟨.i64,d⟩
 |arr n=>exact absurd rfl (k n)
theorem Zm1{k:AV}{es:List (AV×AV)}{r:Option (Nat×AV)}(d:ZoZ P kk t)(q:∀n,kk≠.arr n)(A:PRep M w k vk)(B:EntSet M w es ms)(e:JA kk k es 0=some r):
  ∃r',(Instr.findKey t vk ms).run P w=.ok r' w∧Zfd M w es ms vk r r':=by
 obtain⟨i,D⟩:=Zy2 d q;obtain⟨r',h1,h2⟩:=Zsk (i:=i) A B e;exact⟨r',by simp[Instr.findKey,Vs D,h1],h2⟩
theorem Znr{d:TypeDesc}(k:P.underlying t=some d):(Instr.findKey t vk []).run P w=.ok none w:=by simp[Instr.findKey,Vs k,Instr.findNow]
theorem ZnZ:∀{n:Nat} {l:List AV},Jn n l=true→l.length=n
 |0,[],_=>rfl
 |0,_::_,h| n+1,[],h=>by simp[Jn]at h
 |n+1,a::l,h=>by
  cases a with
  |int k x =>
   cases k with
   |i64=>simp only[Jn]at h;simp[ZnZ h]
   |_=>simp[Jn]at h
  |_=>simp[Jn]at h
theorem Zfb{k:AV}(d:ZoZ P kk t)(q:Zf2 kk k=true)(A:Rep μ h w k vk)(b:Bool):(Instr.checkKey b 10000 t vk).run P w=.ok () w:=by
 cases kk with
 |int| str=>exact Zey d (by simp) b vk
 |arr n =>
  obtain⟨e,j,B,D,i,hi,hs⟩:=d;cases k with
  |agg a =>
   obtain⟨vs,rfl,E⟩:=A;have h1:=ZnZ (show Jn n a=true from q);have h2:=E.len;exact Zk6 B D hi hs b vs.toArray (by simp;omega) 9998
  |_=>simp[Zf2]at q
theorem Zcx{k:AV}{es:List (AV×AV)}{r:Option (Nat×AV)}(A:ZoZ P kk t)(G:Rep μ h w k vk)(H:EntSet (Mut μ h) w es ms)(e:JA kk k es 0=some r):
  ∃r',(Instr.findKey t vk ms).run P w=.ok r' w∧Zfd (Mut μ h) w es ms vk r r':=by
 cases es with
 |nil =>
  obtain⟨_,D,J,L⟩:=H;have:D=[]:=L;subst this;have:ms=[]:=J.symm.eq_nil;subst this;simp only[JA,Va]at e;subst e;have E:∃d,P.underlying t=some d:=by
   cases kk with
   |int=>obtain⟨i,hi⟩:=A;exact⟨_,hi⟩
   |str=>exact⟨_,A⟩
   |arr n=>obtain⟨e,j,N,_⟩:=A;exact⟨_,N⟩
  obtain⟨d,E⟩:=E;exact⟨none,Znr E,rfl⟩
 |cons p es =>
  have q:PRep (Mut μ h) w k vk∧∀n,kk≠.arr n:=by
   simp only[JA]at e;cases B:Zao kk k p.1 with
   |none=>simp[B]at e
   |some b =>
    unfold Zao at B;split at B
    ·exact⟨G,by simp⟩
    ·exact⟨G,by simp⟩
    simp at B
  exact Zm1 A q.2 q.1 H e
theorem ZkP{x k:AV}{ok:Bool}(Y:Rel μ h w)(e:ZfG P t h x k ok=some y)(S:Rep μ h w x vx)(L:Rep μ h w k vk):
  ∃u,(Instr.lookup t vx vk ok).run P w=.ok u w∧Rep μ h w y u:=by
 unfold ZfG at e;split at e
 ·rename_i kk U es N d;obtain⟨kt,W,B⟩:=Zrn N;cases A:Zf2 kk k with
  |false=>simp[A]at e
  |true =>
  simp only[A,cond_true]at e;have G:=fun b=>Zfb B A L b;have H:∀{ms:List MapEntry} {r:Option (Nat×AV)} {r':Option (Nat×Value)},Zdc ok (zv P U) (some r)=some y→Zfd (Mut μ h) w es ms vk r r' →
    ∃u,((do
     let(v,ok') ←match r' with
      |some (_,v)=>pure (v,true)
      |none=>pure (←zeroValue U,false)
     pure (if ok then Value.tuple #[v,.bool ok']else v):Sem Value)).run P w=.ok u w∧Rep μ h w y u:=by
   intro ms r r' D E;cases r with
   |none =>
    have:r'=none:=E;subst this;simp only[Zdc]at D;split at D
    ·rename_i z Z;simp only[Va]at D;subst D;obtain⟨i,z',_,_,h3,J⟩:=ZeW (w:=w) Z;have q:Rep μ h w z z':=by rw[h3];exact Rep.pure _ _ (X9 z')
     cases ok with
     |true=>exact⟨.tuple #[z',.bool false],by simp[J],[z',.bool false],rfl,z',_,rfl,q,_,_,rfl,rfl,rfl⟩
     |false=>exact⟨z',by simp[J],q⟩
    simp at D
   |some p =>
    obtain⟨i,a⟩:=p;obtain⟨j,m,_,rfl,h2,_⟩:=E;simp only[Zdc,Va]at D;subst D;have q:Rep μ h w a m.val:=Rep.pure _ _ h2;cases ok with
    |true=>exact⟨.tuple #[m.val,.bool true],by simp,[m.val,.bool true],rfl,m.val,_,rfl,q,_,_,rfl,rfl,rfl⟩
    |false=>exact⟨m.val,by simp,q⟩
  cases E:JA kk k es 0 with
  |none=>rw[E]at e;simp[Zdc]at e
  |some r =>
   rw[E]at e;cases x with
   |nilm =>
    have hv:vx=.map none:=S;subst hv;simp only[Qs,Va]at d;subst d;obtain⟨r',O,Q⟩:=Zcx (ms:=[]) B L EntSet.empty E;obtain⟨u,h1,h2⟩:=H (ms:=[]) e Q;refine⟨u,?_,h2⟩;simp only[Instr.lookup,VQ,Vs W,VF,V0,G,O]at h1 ⊢;exact h1
   |mp l =>
    simp only[Qs]at d;split at d
    ·rename_i a0 hl;simp only[Va]at d;subst d;obtain⟨a1,b,h1,h2,rfl⟩:=S;obtain⟨b',ms,c,h3,J,h5⟩:=Y.blk l _ hl;have:b'=b:=by rw[h2]at h3;simpa using h3.symm
     subst this;obtain⟨r',O,Q⟩:=Zcx B L h5 E;obtain⟨u,X,h9⟩:=H e Q;have hg:(getObj b').run P w=.ok (.map ms.toArray c) w:=by simp[getObj,Sem.run,J]
     refine⟨u,?_,h9⟩;simp only[Instr.lookup,VQ,Vs W,VF,V0,G,hg,O]at X ⊢;exact X
    simp at d
   |_=>simp[Qs]at d
 simp at e
theorem EntRep.modify{M:Nat→Nat→Prop}{k v:AV}{vk d:Value}(q:PRep M w k vk)(A:PRep M w v d):∀(es:List (AV×AV)) (ms:List MapEntry) (i:Nat),EntRep M w es ms→EntRep M w (es.modify i fun _=>(k,v)) (ms.modify i fun e=>{e with key:=vk,val:=d})
 |[],ms,i,h=>by have:ms=[]:=h;subst this;cases i<;>exact rfl
 |(k',v')::es,ms,i,h=>by
  obtain⟨m,B,rfl,h1,h2,h3⟩:=h;cases i with
  |zero=>exact⟨_,B,rfl,q,A,h3⟩
  |succ i=>exact⟨m,_,rfl,h1,h2,EntRep.modify q A es B i h3⟩
theorem EntRep.ins{M:Nat→Nat→Prop}{k v:AV}{m:MapEntry}(q:PRep M w k m.key)(A:PRep M w v m.val):∀(es:List (AV×AV)) (ms:List MapEntry),EntRep M w es ms→∃d:List MapEntry,d.Perm (m::ms)∧EntRep M w (Zli k v es) d
 |[],ms,h=>by have:ms=[]:=h;subst this;exact⟨[m],UU _,m,[],rfl,q,A,rfl⟩
 |(k',v')::es,ms,h=>by
  obtain⟨m',B,rfl,h1,h2,h3⟩:=h;simp only[Zli];split
  ·exact⟨m::m'::B,UU _,m,_,rfl,q,A,m',B,rfl,h1,h2,h3⟩
  obtain⟨d,D,E⟩:=EntRep.ins q A es B h3;exact⟨m'::d,(D.cons m').trans (List.Perm.swap _ _ _),m',d,rfl,h1,h2,E⟩
theorem ZjY(k v:AV):∀es:List (AV×AV),(Zli k v es).Perm ((k,v)::es)
 |[]=>UU _
 |p::es=>by
  simp only[Zli];split
  ·exact UU _
  exact((ZjY k v es).cons p).trans (List.Perm.swap _ _ _)
theorem ZoR{b:AV}(h:QY a b=true):QY b a=true:=by
 cases a<;>cases b<;>simp[QY]at h ⊢
 ·exact⟨h.1.symm,fun e=>h.2 e.symm⟩
 exact fun e=>h e.symm
theorem EntSet.ins{M:Nat→Nat→Prop}{kk:KK}{k v:AV}{m:MapEntry}{es:List (AV×AV)}{ms:List MapEntry}(J:EntSet M w es ms)(L:JA kk k es 0=some none)(G:PRep M w k m.key)(N:PRep M w v m.val)(i:IntKind):EntSet M w (Zli k v es) (ms++[m]):=by obtain⟨D,A,O,H⟩:=J;obtain⟨E,h1,h2⟩:=EntRep.ins G N es A H;refine⟨?_,E,h1.trans ((O.cons m).trans (List.perm_append_singleton m ms).symm),h2⟩;have d:((Zli k v es).map (·.1)).Perm (k::es.map (·.1)):=(ZjY k v es).map (·.1);unfold ZtQ;rw[d.pairwise_iff fun h=>ZoR h];refine List.pairwise_cons.2 ⟨fun q Q=>?_,D⟩;obtain⟨p,B,rfl⟩:=VE.1 Q;obtain⟨j,S⟩:=Uf.1 B;obtain⟨W,_,U,_⟩:=(EntRep.at es A j H).1 p S;exact(J4 (i:=i) (Zgg es 0 L p B) G U).2.2 rfl
theorem EntSet.put{k v:AV}{B:Value}{m:MapEntry}{es:List (AV×AV)}{ms:List MapEntry}(L:EntSet M w es ms)(N:JA kk k es 0=some (some (i,a)))(O:PRep M w k vk)(Q:PRep M w v B){d:List MapEntry}(S:d.Perm ms)(D:d[i]?=some m)(U:ms[j]?=some m)(W:EntRep M w es d):
  EntSet M w (es.modify i fun _=>(k,v)) (ms.modify j fun e=>{e with key:=vk,val:=B}):=by
 obtain⟨E,_⟩:=L;refine⟨?_,_,Zw2 (fun e=>{e with key:=vk,val:=B}) S D U,EntRep.modify O Q es d i W⟩;obtain⟨_,k',A,q⟩:=Zdi es 0 N;simp only[V4]at A;have G:k=k':=by
  unfold Zao at q;split at q
  ·rename_i X H Y y1;split at q
   ·rename_i h1;have:H=y1:=by simpa using q
    rw[h1,this]
   simp at q
  ·rename_i H y1;have:H=y1:=by simpa using q
   rw[this]
  simp at q
 subst G;have:(es.modify i fun _=>(k,v)).map (·.1)=es.map (·.1):=by
  apply UD;intro l;simp only[Vj,List.getElem?_modify];by_cases J:i=l
  ·subst J;simp[A]
  simp[J]
 unfold ZtQ;rw[this];exact E
theorem Zl8{k:AV}(d:ZgG kk k=true)(A:∀n,kk≠.arr n)(q:PRep M w k vk):(Instr.keyThatStays vk vk).run P w=.ok vk w:=by
 unfold ZgG at d;split at d
 ·rename_i j a;have:vk=.int j a:=q;subst this;simp[Instr.keyThatStays,Instr.sameBits]
 ·rename_i s;have:vk=.string ⟨s.toArray⟩:=q;subst this;have h1:((⟨s.toArray⟩:ByteArray)==⟨s.toArray⟩)=true:=by show((s.toArray==s.toArray):Bool)=true;simp
  simp[Instr.keyThatStays,Instr.sameBits,h1]
 ·exact absurd rfl (A _)
 simp at d
theorem Ext.putMap{es G:List (AV×AV)}{ms J:Array MapEntry}{c S:Nat}(D:h[l]?=some (.map es))(U:μ l=some b)(Q:w.heap[b]?=some (.map ms c)):
  Ext μ h w μ (h.set l (.map G)) {w with heap:=w.heap.setIfInBounds b (.map J S)} where
 out:=rfl
 still:=rfl
 os:=rfl
 tape:=rfl
 output:=rfl
 size:=by simp
 len:=by simp
 keep:=fun b' o v L B=>by
  have H:l<h.length:=(Vb.1 D).1;refine⟨?_,?_⟩
  ·by_cases q:b=b'
   ·subst q;simp[World.cell?,Q]at L
   simp only[World.cell?]at L ⊢;rw[UO q];exact L
  rintro(E|⟨l',k2,hl2,hm2,E⟩)
  ·exact B (.inl E)
  by_cases d:l=l'
  ·subst d;exact B (.inr ⟨l,_,D,hm2,trivial⟩)
  rw[Vc d]at hl2;exact B (.inr ⟨l',k2,hl2,hm2,E⟩)
 outside:=fun b' W E=>⟨by
   have q:b≠b':=fun e=>by subst e;exact E l (Vb.1 D).1 U
   exact UO q,fun l' k=>E l' (by simpa using k)⟩
 cells:=fun l' cs k=>by
  refine⟨⟨cs,?_⟩,rfl⟩;have d:l≠l':=fun e=>by subst e;rw[D]at k;simp at k
  rw[Vc d];exact k
 rows:=fun l' z rs wr k=>by
  have d:l≠l':=fun e=>by subst e;rw[D]at k;simp at k
  exact⟨rs,wr,by rw[Vc d];exact k,Vw _,fun _=>rfl⟩
 maps:=fun l' N k=>by
  refine⟨?_,rfl⟩;have H:l<h.length:=(Vb.1 D).1;by_cases d:l=l'
  ·subst d;exact⟨G,by rw[Vf H]⟩
  exact⟨N,by rw[Vc d];exact k⟩
 sizes:=fun b' O Y A=>by
  obtain⟨X,A⟩:=A;have q:b≠b':=fun e=>by subst e;rw[Q]at A;simp at A
  exact⟨O,⟨X,by rw[←A];exact UO q⟩,rfl⟩
end
section
variable{Bs:World→Prop}
def Yr(Bs:World→Prop)(P:Program)(g:FuncId)(args:List AV)(h:Za)(r:AV)(h':Za):Prop :=
 ∀(μ:Mp Bs) (w:World) (vs:List Value),Rel μ h w→RepL μ h w args vs →
  Calls P g vs.toArray w fun e w'=>∃v μ',e=.returned v∧Rel μ' h' w'∧Ext μ h w μ' h' w'∧Rep μ' h' w' r v
def Ww(Bs:World→Prop)(P:Program)(F:Tk→Res):Prop :=
 ∀g args h r h',F (.call g args h)=some (r,h')→Go.Proofs.Enters P g∧Yr Bs P g args h r h'
end
section
variable{Bs:World→Prop}
variable{P:Program}{μ:Mp Bs}{h h':Za}{w:World}{a:Act}{o:Oper}{x:AV}
def Wb(P:Program)(o:Oper)(a:Act)(μ:Mp Bs)(h:Za)(w:World)(x:AV)(h':Za):Prop :=
 ∀(next:Act→World→Prop) (Q:Exit→Act→World→Prop),(∀v μ' w',Rel μ' h' w'→Ext μ h w μ' h' w'→Rep μ' h' w' x v→next (a.put o.dst v) w')→o.wp P a w next Q
theorem ZbG(hs:execOp a.eval o=(do pure (.value (←s))))(d:Quiet P μ h w s x):Wb P o a μ h w x h:=by
 intro next Q k;obtain⟨u,w',h1,h2,h3,q⟩:=d;have:(execOp a.eval o).run P w=.ok (.value u) w':=by rw[hs];simp[h1]
 unfold Oper.wp;rw[this];exact k u μ w' h2 h3 q
theorem Q0(hs:execOp a.eval o=pure (.value v))(d:Rel μ h w)(k:Rep μ h w x v):Wb P o a μ h w x h:=by
 intro next Q q;have:(execOp a.eval o).run P w=.ok (.value v) w:=by rw[hs];rfl
 unfold Oper.wp;rw[this];exact q v μ w d (Ext.refl _ _ _) k
theorem YS(hs:execOp a.eval o=(do pure (.value (←s))))(d:Rel μ h w)(k:∃u,s.run P w=.ok u w∧Rep μ h w x u):Wb P o a μ h w x h :=
 ZbG hs (Quiet.of_same d k)
theorem Zde{ev:Operand→AV}{ρ:Operand→Value}(d:XF μ h w ev ρ)(y:Option Operand):JS μ h w (evo ev y) (y.map ρ):=by
 cases y with
 |none=>trivial
 |some y=>exact d y
def inner(μ:Mp Bs)(h:Za):Mp Bs:=⟨fun _=>none,Mut μ h,μ.still⟩
theorem Rel.empty(q:Rel μ h w):Rel (inner μ h) [] w where
 inj:=fun _ _ _ d=>by simp at d
 blk:=fun _ _ d=>by simp at d
 apart:=fun _ _ _ d=>by simp at d
 still:=fun b B=>⟨(q.still b B).1,fun l d=>by simp at d⟩
 base:=q.base
 old:=fun b o A=>by
  rcases A with A|⟨l,k,d,D,_⟩
  ·exact q.old b o A
  exact q.mapped (Vb.1 d).1 D
theorem Zsb{o:Nat}:Mut (inner μ h) [] b o↔Mut μ h b o:=by
 constructor
 ·rintro(ho|⟨l,k,hl,_⟩)
  ·exact ho
  simp at hl
 exact .inl
theorem Zj7(d:Rel μ h w){nl:Bool}{l l':List AV}{vs:List Value}(e:Zdy nl h l=some l')(k:RepL μ h w l vs):RepL (inner μ h) [] w l' vs :=
 RepL.pure _ _ (PRepL.keep (fun b o v q A=>⟨q,fun B=>A (Zsb.1 B)⟩) _ _ (ZdR d e k))
mutual
/-- With no memory of our own a value hangs on none. -/
theorem Rep.no_own{μ:Mp Bs}:∀(a:AV) (v:Value),Rep μ [] w a v→PRep (Mut μ []) w a v
 |.agg cs,_,r=>by obtain⟨vs,d,r⟩:=r;exact⟨vs,d,RepL.no_own cs vs r⟩
 |.tup cs,_,r=>by obtain⟨vs,d,r⟩:=r;exact⟨vs,d,RepL.no_own cs vs r⟩
 |.fn _ cs,_,r=>by obtain⟨vs,d,r⟩:=r;exact⟨vs,d,RepL.no_own cs vs r⟩
 |.bnd _ cs,_,r=>by obtain⟨vs,d,r⟩:=r;exact⟨vs,d,RepL.no_own cs vs r⟩
 |.iface _ a,_,r=>by obtain⟨x,d,r⟩:=r;exact⟨x,d,Rep.no_own a x r⟩
 |.ptr _ _,_,r=>by obtain⟨_,_,h1,_⟩:=r;simp at h1
 |.own _ _,_,r=>by obtain⟨_,_,_,_,_,h1,_⟩:=r;simp at h1
 |.optr _ _ _ _,_,r=>by obtain⟨_,_,_,_,h1,_⟩:=r;simp at h1
 |.int _ _,_,r| .bool _,_,r| .str _,_,r| .nilp,_,r| .nilf,_,r| .nili,_,r| .emp _,_,r| .nilm,_,r| .nils,_,r| .rows _,_,r| .lit _,_,r| .rptr _ _,_,r| .any,_,r=>r
theorem RepL.no_own{μ:Mp Bs}:∀(l:List AV) (vs:List Value),RepL μ [] w l vs→PRepL (Mut μ []) w l vs
 |[],_,r=>r
 |a::r,_,x=>by obtain⟨v,d,k,h1,h2⟩:=x;exact⟨v,d,k,Rep.no_own a v h1,RepL.no_own r d h2⟩
end
theorem Ext.from_empty{μ':Mp Bs}(e:Ext (inner μ h) [] w μ' h1 w'):Ext μ h w μ h w'∧∀b,b<w.heap.size→w'.heap[b]?=w.heap[b]?:=by
 have q:∀b,b<w.heap.size→w'.heap[b]?=w.heap[b]?:=fun b q=>(e.outside b q fun l k=>by simp at k).1;refine⟨{
  out:=rfl
  still:=rfl
  os:=e.os
  tape:=e.tape
  output:=e.output
  size:=e.size
  keep:=fun b o v A B=>by
   have d:b<w.heap.size:=by
    by_cases d:b<w.heap.size
    ·exact d
    simp[World.cell?,Uz (S6 d)]at A
   exact⟨by simp only[World.cell?]at A ⊢;rw[q b d];exact A,B⟩
  outside:=fun b d D=>⟨q b d,D⟩
  cells:=fun _ cs k=>⟨⟨cs,k⟩,rfl⟩
  len:=Vw _
  maps:=fun _ es k=>⟨⟨es,k⟩,rfl⟩
  rows:=fun _ _ rs wr k=>⟨rs,wr,k,Vw _,fun _=>rfl⟩
  sizes:=fun b vs T A=>⟨vs,A.eq (q b A.lt),rfl⟩},q⟩
theorem Rel.from_empty{μ':Mp Bs}{h1:Za}{w':World}(d:Rel μ h w)(e:Ext (inner μ h) [] w μ' h1 w'):Rel μ h w' :=
 d.ext_same e.from_empty.1 fun _ b k q=>e.from_empty.2 b (d.mapped k q)
theorem Rep.from_empty{μ':Mp Bs}{a:AV}(e:Ext (inner μ h) [] w μ' [] w')(r:Rep μ' [] w' a v):Rep μ h w' a v:=by refine Rep.pure a v (PRep.keep ?_ a v (Rep.no_own a v r));intro b o v d k;refine⟨d,fun q=>k (.inl ?_)⟩;rw[e.out];exact q
theorem Zoh{c:Call}{d:Array Value}(k:o.op=.call c)(q:c.callee=.value f)(A:a.eval f=.func (.func g) #[] d)(B:Go.Proofs.Enters P g):
  (execOp a.eval o).run P w=.ok (.enter g (c.args.map a.eval++d)) w:=by
 simp only[execOp,k,VQ,resolve,q,A,Deferred.ofValue,V0,VF,invoke,Array.empty_append];exact B _ _
theorem ZrA{c:Call}{d:List Value}{μ1:Mp Bs}{k:Za}(A:o.op=.call c)(B:c.callee=.value f)(D:a.eval f=.func (.func g) #[] d.toArray)
  (E:Go.Proofs.Enters P g) (q:Yr Bs P g args k r h1) (G:Rel μ1 k w) (H:RepL μ1 k w args (c.args.toList.map a.eval++d))
  (J:∀v μ2 w',Rel μ2 h1 w'→Ext μ1 k w μ2 h1 w'→Rep μ2 h1 w' r v→∃μ',Rel μ' h' w'∧Ext μ h w μ' h' w'∧Rep μ' h' w' x v):Wb P o a μ h w x h':=by
 intro next Q L;unfold Oper.wp;rw[Zoh A B D E,Oper.upon_enter];have N:(c.args.map a.eval++d.toArray)=(c.args.toList.map a.eval++d).toArray:=by apply UX;simp
 rw[N];refine(q μ1 w _ G H).mono ?_;rintro e w' ⟨v,μ2,rfl,h2,h3,O⟩;obtain⟨μ',S,U,W⟩:=J v μ2 w' h2 h3 O;exact L v μ' w' S U W
theorem QW{vs:List Value}{μ1:Mp Bs}{k:Za}(d:(execOp a.eval o).run P w=.ok (.enter g vs.toArray) w)
  (q:Yr Bs P g args k r h1) (A:Rel μ1 k w) (B:RepL μ1 k w args vs)
  (D:∀v μ2 w',Rel μ2 h1 w'→Ext μ1 k w μ2 h1 w'→Rep μ2 h1 w' r v→∃μ',Rel μ' h' w'∧Ext μ h w μ' h' w'∧Rep μ' h' w' x v):Wb P o a μ h w x h':=by
 intro next Q E;unfold Oper.wp;rw[d,Oper.upon_enter];refine(q μ1 w _ A B).mono ?_;rintro e w' ⟨v,μ2,rfl,h2,h3,G⟩;obtain⟨μ',H,J,L⟩:=D v μ2 w' h2 h3 G;exact E v μ' w' H J L
theorem ZhJ{c:Call}{d:List Value}(k:o.op=.call c)(q:c.callee=.value f)(A:a.eval f=.func (.func g) #[] d.toArray)(B:Go.Proofs.Enters P g):
  (execOp a.eval o).run P w=.ok (.enter g (c.args.toList.map a.eval++d).toArray) w:=by
 rw[Zoh k q A B];have D:(c.args.map a.eval++d.toArray)=(c.args.toList.map a.eval++d).toArray:=by apply UX;simp
 rw[D]
theorem Zox{f:Operand}{fs:List Value}(d:o.op=.call c)(k:c.callee=.value f)(q:a.eval f=.func (.func g) fs.toArray #[])(A:Go.Proofs.Enters P g):
  (execOp a.eval o).run P w=.ok (.enter g (fs++c.args.toList.map a.eval).toArray) w:=by
 have B:(fs.toArray++c.args.map a.eval++#[])=(fs++c.args.toList.map a.eval).toArray:=by apply UX;simp
 rw[←B];simp only[execOp,d,VQ,resolve,k,q,Deferred.ofValue,V0,VF,invoke];exact A _ _
theorem ZuS{f:Operand}{fs:List AV}{ev:Operand→AV}(d:XF μ h w ev a.eval)(k:ev f=.bnd g fs):∃vs:List Value,a.eval f=.func (.func g) vs.toArray #[]∧RepL μ h w fs vs:=by have:=d f;rw[k]at this;exact this
theorem ZlR{d:List AV}{ev:Operand→AV}(k:XF μ h w ev a.eval)(q:ev f=.fn g d):∃vs:List Value,a.eval f=.func (.func g) #[] vs.toArray∧RepL μ h w d vs:=by have:=k f;rw[q]at this;exact this
theorem Zog{nl:FuncId→Bool×Nat}(G:Ww Bs P F){ev:Operand→AV}(k:Rel μ h w)(D:XF μ h w ev a.eval)(H:o.op=.call c)(J:c.callee=.value f)
  (e:Zch nl F h (evs ev c.args.toList) (ev f)=some x):Wb P o a μ h w x h:=by
 unfold Zch at e;split at e
 ·rename_i g E L;obtain⟨vs,N,d⟩:=ZlR D L;split at e
  ·rename_i pure O;unfold Zf3 at e;split at e
   ·rename_i r q;simp only[Va]at e;subst e;obtain⟨A,B⟩:=G _ _ _ _ _ q;exact ZrA H J N A B k.empty (Zj7 k O ((Jh D c.args.toList).append d)) fun v μ2 w' h2 h3 h4 =>
     ⟨μ,k.from_empty h3,h3.from_empty.1,Rep.from_empty h3 h4⟩
   simp at e
  simp at e
 simp at e
theorem WN{b:Builtin}(k:o.op=.call c)(q:c.callee=.builtin b):
  execOp a.eval o=(do
   let d ←(pure {target:=.builtin b c.argTypes o.type (c.args.map fun|.const _=>true|_=>false),args:=c.args.map a.eval}:Sem Deferred)
   invoke d.target d.args):=by
 simp only[execOp,k,resolve,q];rfl
theorem Zie{b:Builtin}{ev:Operand→AV}(G:Rel μ h w)(S:XF μ h w ev a.eval)(H:o.op=.call c)(J:c.callee=.builtin b)
  (e:Zcn P c.argTypes[0]? b (evs ev c.args.toList)=some x):Wb P o a μ h w x h:=by
 have d:=Jh S c.args.toList;have q:c.args.map a.eval=(c.args.toList.map a.eval).toArray:=by apply UX;simp
 unfold Zcn at e;split at e
 ·rename_i y L;rw[L]at d;obtain⟨v,N,O,h1,h2⟩:=d;have:N=[]:=h2;subst this;cases B:c.argTypes[0]? with
  |none=>simp[B,tk?,Zwd]at e
  |some t =>
   simp only[B,tk?]at e;obtain⟨u,h3,D⟩:=Zp2 (P:=P) (t:=t) e h1 o.type;intro next Q E;have A:(Builtin.len_ c.argTypes o.type (c.args.map a.eval)).run P w=.ok u w:=by
    rw[q,O];have:Builtin.len_ c.argTypes o.type #[v]=Builtin.len_ #[t] o.type #[v]:=by simp[Builtin.len_,B]
    rw[this];exact h3
   have k:(execOp a.eval o).run P w=.ok (.value u) w:=by rw[WN H J];simp only[pure_bind,invoke,builtin,VQ,A,VF,V0]
   unfold Oper.wp;rw[k];exact E u μ w G (Ext.refl _ _ _) D
 ·rename_i y L;rw[L]at d;obtain⟨v,N,O,h1,h2⟩:=d;have:N=[]:=h2;subst this;cases B:c.argTypes[0]? with
  |none=>simp[B,tk?,Zt8]at e
  |some t =>
   simp only[B,tk?]at e;obtain⟨u,h3,D⟩:=Zpj (P:=P) (t:=t) e h1 o.type;intro next Q E;have A:(Builtin.cap_ c.argTypes o.type (c.args.map a.eval)).run P w=.ok u w:=by
    rw[q,O];have:Builtin.cap_ c.argTypes o.type #[v]=Builtin.cap_ #[t] o.type #[v]:=by simp[Builtin.cap_,B]
    rw[this];exact h3
   have k:(execOp a.eval o).run P w=.ok (.value u) w:=by rw[WN H J];simp only[pure_bind,invoke,builtin,VQ,A,VF,V0]
   unfold Oper.wp;rw[k];exact E u μ w G (Ext.refl _ _ _) D
 ·obtain⟨u,h3,D⟩:=ZpF (P:=P) e d c.argTypes o.type;intro next Q E;have k:(execOp a.eval o).run P w=.ok (.value u) w:=by rw[WN H J];simp only[pure_bind,invoke,builtin,VQ,q,h3,VF,V0]
  unfold Oper.wp;rw[k];exact E u μ w G (Ext.refl _ _ _) D
 ·obtain⟨u,h3,D⟩:=Zph (P:=P) e d c.argTypes o.type;intro next Q E;have k:(execOp a.eval o).run P w=.ok (.value u) w:=by rw[WN H J];simp only[pure_bind,invoke,builtin,VQ,q,h3,VF,V0]
  unfold Oper.wp;rw[k];exact E u μ w G (Ext.refl _ _ _) D
 simp at e
theorem Zc9(O:Ww Bs C.P F){ev:Operand→AV}(B:Rel μ h w)(k:XF μ h w ev a.eval)(e:ZP C F ev h o.op=some x):Wb C.P o a μ h w x h:=by
 cases d:o.op with
 |move y =>
  simp only[ZP,d,Va]at e;subst e;exact Q0 (by simp[execOp,d]) B (k y)
 |assign y =>
  simp only[ZP,d,Va]at e;subst e;exact Q0 (by simp[execOp,d]) B (k y)
 |pick c p q =>
  simp only[ZP,d]at e;obtain⟨t,h1,h2⟩:=ZpB e (k c) (k p) (k q);refine Q0 (v:=if t then a.eval p else a.eval q) ?_ B h2;simp[execOp,d,h1,asBool]
 |build t D =>
  simp only[ZP,d]at e;exact YS (by simp only[execOp,d]) B (ZnN k e)
 |buildSlice t n D =>
  simp only[ZP,d]at e;split at e
  ·rename_i z b G;exact ZbG (by simp only[execOp,d]) (Zf8 B k G e)
  simp at e
 |load t y =>
  simp only[ZP,d]at e;exact YS (by simp only[execOp,d]) B (Zgs B e (k y))
 |nilCheck y =>
  simp only[ZP,d]at e;obtain⟨h1,h2⟩:=ZhS e (k y);refine Q0 (v:=a.eval y) ?_ B h2;rcases h1 with⟨p,H⟩|⟨f,cs,H⟩
  ·simp[execOp,d,H]
  simp[execOp,d,H]
 |binOp op t p q t' =>
  simp only[ZP,d]at e;cases J:Zvl C.P op t (Qx p||Qx q) (ev p) (ev q)with
  |some v =>
   simp only[J,orV,Va]at e;subst e;exact YS (by simp only[execOp,d]) B (ZpN (ty:=t) op rfl J (k p) (k q))
  |none =>
   simp only[J,orV]at e;exact YS (by simp only[execOp,d]) B (ZoJ (ty:=t) (x:=p) (y:=q) (Zuo q h) op e (k p) (k q))
 |unOp op t p =>
  simp only[ZP,d]at e;exact YS (by simp only[execOp,d]) B (Zr0 e (k p))
 |convert t u y =>
  simp only[ZP,d]at e;exact ZbG (by simp only[execOp,d]) (ZdM B e (k y))
 |makeInterface t y =>
  simp only[ZP,d]at e;exact YS (by simp only[execOp,d]) B (ZmA e (k y))
 |makeFunc f first A =>
  cases f with
  |func g =>
   simp only[ZP,d]at e;split at e
   ·rename_i L;simp only[Va]at e;subst e;refine Q0 (v:=.func (.func g) #[] (A.toList.map a.eval).toArray) ?_ B ⟨_,rfl,Jh k _⟩;have h1:first.map a.eval=#[]:=by
     have:first=#[]:=SR L
     rw[this];simp
    have h2:A.map a.eval=(A.toList.map a.eval).toArray:=by apply UX;simp
    simp only[execOp,d,Instr.makeFunc,h1,h2,pure_bind]
   split at e
   ·rename_i L;simp only[Va]at e;subst e;refine Q0 (v:=.func (.func g) (first.toList.map a.eval).toArray #[]) ?_ B ⟨_,rfl,Jh k _⟩;have h1:A.map a.eval=#[]:=by have:A=#[]:=SR L;rw[this];simp
    have h2:first.map a.eval=(first.toList.map a.eval).toArray:=by apply UX;simp
    simp only[execOp,d,Instr.makeFunc,h1,h2,pure_bind]
   simp at e
  |_=>simp[ZP,d]at e
 |slice t y lo hi Q =>
  cases Q with
  |none =>
   simp only[ZP,d]at e;cases E:tk C.P t with
   |str =>
    simp only[E,ZbZ]at e;exact YS (by simp only[execOp,d,Px]) B (Zlw E e (k y) (Zde k lo) (Zde k hi))
   |slice z b =>
    simp only[E,ZbZ]at e;exact YS (by simp only[execOp,d,Px]) B (ZkX E B e (k y) (Zde k lo) (Zde k hi))
   |arr n =>
    simp only[E,ZbZ]at e;exact YS (by simp only[execOp,d,Px]) B (Zjn E e (k y) (Zde k lo) (Zde k hi))
   |other=>simp[E,ZbZ]at e
  |some m =>
   cases lo with
   |none =>
    cases hi with
    |none=>simp[ZP,d]at e
    |some hi =>
     simp only[ZP,d]at e;exact YS (by simp only[execOp,d,Ue,Px]) B (ZjL e (k y) (k hi) (k m))
   |some lo =>
    cases hi with
    |none=>simp[ZP,d]at e
    |some hi =>
     simp only[ZP,d]at e;exact YS (by simp only[execOp,d,Ue]) B (ZkS e (k y) (k lo) (k hi) (k m))
 |fieldAddr t y f =>
  simp only[ZP,d]at e;exact YS (by simp only[execOp,d]) B (Zmb e (k y))
 |field t y f =>
  simp only[ZP,d]at e;exact YS (by simp only[execOp,d]) B (Zmg e (k y))
 |indexAddr t y i =>
  simp only[ZP,d]at e;exact YS (by simp only[execOp,d]) B (Zml e (k y) (k i))
 |index t y i =>
  simp only[ZP,d]at e;exact YS (by simp only[execOp,d]) B (Zk4 e (k y) (k i))
 |lookup t y i ok =>
  simp only[ZP,d]at e;exact YS (by simp only[execOp,d]) B (ZkP B e (k y) (k i))
 |extract y i =>
  simp only[ZP,d]at e;exact YS (by simp only[execOp,d]) B (ZjA e (k y))
 |call c =>
  simp only[ZP,d,J7]at e;split at e
  ·rename_i f N;exact Zog O B k d N e
  ·rename_i b N;exact Zie B k d N e
  simp at e
 |_=>simp[ZP,d]at e
end
section
variable{Bs:World→Prop}
def Mp.set(μ:Mp Bs)(l:Nat)(b:Option Nat):Mp Bs:=⟨fun i=>if i=l then b else μ i,μ.out,μ.still⟩
end
section
variable{Bs:World→Prop}
variable{P:Program}{μ:Mp Bs}{h:Za}{w:World}{a:Act}{o:Oper}{x:AV}
theorem ZbW{y:Obj}(d:w.heap[b]?=some y):b<w.heap.size:=(Uv.1 d).1
theorem ZeY{o:Nat}(k:w.cell? ⟨b,o,none⟩=some v):b<w.heap.size:=by
 by_cases d:b<w.heap.size
 ·exact d
 simp[World.cell?,Uz (S6 d)]at k
theorem Xr(y:Obj)(d:b<w.heap.size):(w.alloc y).heap[b]?=w.heap[b]?:=by simp only[World.alloc];rw[SL,Vm (by omega)]
theorem Xi(y:Obj):(w.alloc y).heap[w.heap.size]?=some y:=by show(w.heap.push y)[w.heap.size]?=some y;simp
def grow(w:World):Option Obj→World
 |some y=>w.alloc y
 |none=>w
theorem Zfp(d:Option Obj)(k:b<w.heap.size):(grow w d).heap[b]?=w.heap[b]?:=by
 cases d with
 |none=>rfl
 |some y=>exact Xr y k
theorem Zrv(d:Option Obj):w.heap.size≤(grow w d).heap.size:=by
 cases d with
 |none=>exact Vw _
 |some y=>show _≤(w.alloc y).heap.size;simp
theorem set_same(l:Nat)(b:Option Nat):(μ.set l b) l=b:=by simp[Mp.set]
theorem Zm(b:Option Nat)(hi:i≠l):(μ.set l b) i=μ i:=by simp[Mp.set,hi]
theorem Ext.push(L:Rel μ h w)(k:Blk)(A:Option Obj):Ext μ h w (μ.set h.length (A.map fun _=>w.heap.size)) (h++[k]) (grow w A) where
 out:=rfl
 still:=rfl
 os:=by cases A<;>rfl
 tape:=by cases A<;>rfl
 output:=by cases A<;>rfl
 size:=Zrv A
 len:=by simp
 maps:=fun l es q=>by have d:=(Vb.1 q).1;exact⟨⟨es,by rw[Vh d];exact q⟩,Zm _ (by omega)⟩
 keep:=fun b o v G J=>by
  have d:=ZeY G;refine⟨?_,?_⟩
  ·simp only[World.cell?]at G ⊢;rw[Zfp A d];exact G
  rintro(D|⟨l,k',q,hm',D⟩)
  ·exact J (.inl D)
  by_cases B:l=h.length
  ·subst B;rw[set_same]at hm';cases A with
   |none=>simp at hm'
   |some y=>simp at hm';omega
  rw[Zm _ B]at hm';have H:l<h.length:=by have:=(Vb.1 q).1;simp at this;omega
  rw[Vh H]at q;exact J (.inr ⟨l,k',q,hm',D⟩)
 outside:=fun b E D=>by
  refine⟨Zfp A E,fun l q=>?_⟩;by_cases B:l=h.length
  ·subst B;rw[set_same];cases A with
   |none=>simp
   |some y=>simp;omega
  rw[Zm _ B];exact D l (by simp at q;omega)
 cells:=fun l cs q=>by have d:=(Vb.1 q).1;exact⟨⟨cs,by rw[Vh d];exact q⟩,Zm _ (by omega)⟩
 rows:=fun l z rs wr q=>by have d:=(Vb.1 q).1;exact⟨rs,wr,by rw[Vh d];exact q,Vw _,fun _=>Zm _ (by omega)⟩
 sizes:=fun b vs T E=>⟨vs,E.eq (Zfp A E.lt),rfl⟩
theorem Rel.push(B:Rel μ h w)(k:Blk)(A:Option Obj)
  (Q:Zed (μ.set h.length (A.map fun _=>w.heap.size)) (h++[k]) (grow w A) h.length k) :
  Rel (μ.set h.length (A.map fun _=>w.heap.size)) (h++[k]) (grow w A) where
 inj:=fun l l' b G L D d=>by
  simp only[Vu,Uo]at G L;by_cases h1:l=h.length<;>by_cases h2:l'=h.length
  ·omega
  ·subst h1;rw[set_same]at D;rw[Zm _ h2]at d;cases A with
   |none=>simp at D
   |some y =>
    simp at D;have:=B.mapped (by omega) d;omega
  ·subst h2;rw[set_same]at d;rw[Zm _ h1]at D;cases A with
   |none=>simp at d
   |some y =>
    simp at d;have:=B.mapped (by omega) D;omega
  rw[Zm _ h1]at D;rw[Zm _ h2]at d;exact B.inj l l' b (by omega) (by omega) D d
 blk:=fun l k' G=>by
  by_cases h1:l=h.length
  ·subst h1;simp at G;subst G;exact Q
  have N:l<h.length:=by have:=(Vb.1 G).1;simp at this;omega
  rw[Vh N]at G;have e:=Ext.push B k A;have q:∀b,b<w.heap.size→(grow w A).heap[b]?=w.heap[b]?:=fun b S=>Zfp A S;have:=B.blk l k' G;cases k' with
  |cells cs =>
   obtain⟨b,vs,T,h3,E,H,O⟩:=this;exact⟨b,vs,T,by rw[Zm _ h1];exact h3,by rw[q b (ZbW E)];exact E,H,RepL.ext e cs vs O⟩
  |rows z rs wr =>
   rcases this with⟨h3,E⟩|⟨b,vs,T,h3,E,H,O⟩
   ·exact .inl ⟨h3,by rw[Zm _ h1];exact E⟩
   exact .inr ⟨b,vs,T,by rw[Zm _ h1];exact h3,E.eq (q b E.lt),H,O.ext e⟩
  |hole =>
   show(μ.set h.length (A.map fun _=>w.heap.size)) l=none;rw[Zm _ h1];exact this
  |map es =>
   obtain⟨b,ms,c,h3,E,H⟩:=this;exact⟨b,ms,c,by rw[Zm _ h1];exact h3,by rw[q b (ZbW E)];exact E,H.keep e.keep⟩
 apart:=fun l b o G D J=>by
  by_cases h1:l=h.length
  ·subst h1;rw[set_same]at D;have:=B.old b o J;cases A with
   |none=>simp at D
   |some y=>simp at D;omega
  rw[Zm _ h1]at D;exact B.apart l b o (by simp at G;omega) D J
 old:=fun b o J=>Ur (B.old b o J) (Ext.push B k A).size
 still:=(B.carry (Ext.push B k A)).1
 base:=(B.carry (Ext.push B k A)).2
theorem ZaK(t:TypeId)(v:Value):(newVar t v).run P w=.ok ⟨w.heap.size,0,none⟩ (w.alloc (.cells v.cells t)):=rfl
theorem Zim(q:Rel μ h w)(e:alloc h (some y)=some (x,h'))(B:Rep μ h w y v)
  (d:(execOp a.eval o).run P w=.ok (.value (.pointer (some ⟨w.heap.size,0,none⟩))) (w.alloc (.cells v.cells t))):Wb P o a μ h w x h':=by
 simp only[Go.Ab.alloc]at e;split at e
 ·rename_i cs k;simp only[Va,Vp]at e;obtain⟨rfl,rfl⟩:=e;obtain⟨hs,D⟩:=XX k B;intro next Q E;unfold Oper.wp;rw[d];have A:=Ext.push q (.cells cs) (some (.cells v.cells t));refine E _ (μ.set h.length (some w.heap.size)) (w.alloc (.cells v.cells t)) (Rel.push q (.cells cs) (some (.cells v.cells t)) ?_) A ?_
  ·exact⟨w.heap.size,v.cells.toList,t,set_same _ _,by rw[S2];exact Xi _,hs,RepL.ext A cs _ D⟩
  exact⟨cs,w.heap.size,by simp,set_same _ _,rfl⟩
 simp at e
theorem ZoE(q:Rel μ h w)(e:tyP t (alloc h (some y))=some (x,h'))(B:Rep μ h w y v)
  (k:(execOp a.eval o).run P w=.ok (.value (.pointer (some ⟨w.heap.size,0,none⟩))) (w.alloc (.cells v.cells t))):Wb P o a μ h w x h':=by
 simp only[Go.Ab.alloc]at e;cases d:cellsOf y with
 |none=>simp[d,tyP]at e
 |some cs =>
  simp only[d,tyP,Va,Vp]at e;obtain⟨rfl,rfl⟩:=e;obtain⟨hs,D⟩:=XX d B;intro next Q E;unfold Oper.wp;rw[k];have A:=Ext.push q (.cells cs) (some (.cells v.cells t));refine E _ (μ.set h.length (some w.heap.size)) (w.alloc (.cells v.cells t)) (Rel.push q (.cells cs) (some (.cells v.cells t)) ?_) A ?_
  ·exact⟨w.heap.size,v.cells.toList,t,set_same _ _,by rw[S2];exact Xi _,hs,RepL.ext A cs _ D⟩
  exact⟨cs,w.heap.size,by simp,set_same _ _,rfl,v.cells,⟨_,Xi _⟩⟩
def ZvW:Blk→Blk→Prop
 |.cells _,.cells _=>True
 |.rows z rs _,.rows z' rs' _=>z=z'∧rs.length≤rs'.length
 |_,_=>False
theorem Ext.update{k k':Blk}{vs G:Array Value}{fz U:Nat×Nat}(hr:Rel μ h w)(E:h[l]?=some k)(hm:μ l=some b)(hb:w.heap[b]?=some (.cells vs T fz))
  (h1:w'.heap[b]?=some (.cells G T U)) (h2:∀b',b'≠b→w'.heap[b']?=w.heap[b']?) (h3:w'.os=w.os) (h4:w'.tape=w.tape) (h5:w'.output=w.output) (h6:w.heap.size≤w'.heap.size)
  (W:G.size=vs.size) (L:∀o v,vs[o]?=some v→¬k.open_ o→G[o]?=some v) (N:∀o,k'.open_ o→k.open_ o) (Q:ZvW k k'):Ext μ h w μ (h.set l k') w' where
 out:=rfl
 still:=rfl
 os:=h3
 tape:=h4
 output:=h5
 size:=h6
 len:=by simp
 maps:=fun l' es q=>by
  refine⟨?_,rfl⟩;have A:l<h.length:=(Vb.1 E).1;by_cases d:l=l'
  ·subst d;rw[E]at q;simp only[Va]at q;subst q;exact Q.elim
  exact⟨es,by rw[Vc d];exact q⟩
 keep:=fun b' o v S H=>by
  have A:l<h.length:=(Vb.1 E).1;refine⟨?_,?_⟩
  ·by_cases D:b'=b
   ·subst D;have X:¬k.open_ o:=fun J=>H (.inr ⟨l,k,E,hm,J⟩);simp only[World.cell?,hb]at S;simp only[World.cell?,h1];exact L o v (by simpa using S) X
   simp only[World.cell?]at S ⊢;rw[h2 b' D];exact S
  rintro(J|⟨l',k2,hl2,hm2,J⟩)
  ·exact H (.inl J)
  by_cases d:l=l'
  ·subst d;rw[Vf A]at hl2;simp only[Va]at hl2;subst hl2;exact H (.inr ⟨l,k,E,hm2,N o J⟩)
  rw[Vc d]at hl2;exact H (.inr ⟨l',k2,hl2,hm2,J⟩)
 outside:=fun b' a2 J=>⟨h2 b' fun e=>by subst e;exact J l (Vb.1 E).1 hm,fun l' q=>J l' (by simpa using q)⟩
 cells:=fun l' cs q=>by
  refine⟨?_,rfl⟩;have A:l<h.length:=(Vb.1 E).1;by_cases d:l=l'
  ·subst d;rw[E]at q;simp only[Va]at q;subst q;cases k' with
   |cells O=>exact⟨O,by rw[Vf A]⟩
   |rows _ _ _| hole| map _=>exact Q.elim
  exact⟨cs,by rw[Vc d];exact q⟩
 rows:=fun l' z rs wr q=>by
  have A:l<h.length:=(Vb.1 E).1;by_cases d:l=l'
  ·subst d;rw[E]at q;simp only[Va]at q;subst q;cases k' with
   |cells O| hole| map _=>exact Q.elim
   |rows z' Y Z =>
    obtain⟨rfl,a0⟩:=Q;exact⟨Y,Z,by rw[Vf A],a0,fun _=>rfl⟩
  exact⟨rs,wr,by rw[Vc d];exact q,Vw _,fun _=>rfl⟩
 sizes:=fun b' a1 T2 B=>by
  by_cases D:b'=b
  ·subst D;obtain⟨a3,B⟩:=B;rw[hb]at B;simp only[Va,SB]at B;obtain⟨rfl,rfl,_⟩:=B;exact⟨G,⟨_,h1⟩,W⟩
  exact⟨a1,B.eq (h2 b' D),rfl⟩
theorem Rel.update{k k':Blk}(A:Rel μ h w)(U:h[l]?=some k)(W:μ l=some b)(h2:∀b',b'≠b→w'.heap[b']?=w.heap[b']?)
  (e:Ext μ h w μ (h.set l k') w') (D:Zed μ (h.set l k') w' l k'):Rel μ (h.set l k') w' where
 inj:=fun X Y b' J L=>A.inj X Y b' (by simpa using J) (by simpa using L)
 blk:=fun l' S d=>by
  have E:l<h.length:=(Vb.1 U).1;by_cases q:l=l'
  ·subst q;rw[Vf E]at d;simp only[Va]at d;subst d;exact D
  rw[Vc q]at d;have N:l'<h.length:=(Vb.1 d).1;have B:∀b',μ l'=some b'→b'≠b:=fun b' O e=>by subst e;exact q (A.inj l l' b' E N W O)
  have:=A.blk l' S d;cases S with
  |cells cs =>
   obtain⟨b',vs,T,h3,G,H,Q⟩:=this;exact⟨b',vs,T,h3,by rw[h2 b' (B b' h3)];exact G,H,RepL.ext e cs vs Q⟩
  |rows z rs wr =>
   rcases this with Z|⟨b',vs,T,h3,G,H,Q⟩
   ·exact .inl Z
   exact .inr ⟨b',vs,T,h3,G.eq (h2 b' (B b' h3)),H,Q.ext e⟩
  |hole=>exact this
  |map es =>
   obtain⟨b',ms,c,h3,G,H⟩:=this;exact⟨b',ms,c,h3,by rw[h2 b' (B b' h3)];exact G,H.keep e.keep⟩
 apart:=fun l' b' o d=>A.apart l' b' o (by simpa using d)
 old:=fun b' o ho=>Ur (A.old b' o ho) e.size
 still:=(A.carry e).1
 base:=(A.carry e).2
theorem Zoa{c:AV}(hs:single c=true)(d:Rep μ h w c v):v.oneCell'=true:=by
 cases c with
 |agg _| tup _| any=>simp[single]at hs
 |int k n| bool b| str s| nilp| nilf| nili=>have:v=_:=d;subst this;rfl
 |emp _=>obtain⟨_,_,rfl,_⟩:=d;rfl
 |nilm| nils=>have:v=_:=d;subst this;rfl
 |rows rs=>obtain⟨b,c,rfl,_⟩:=d;rfl
 |lit rs=>obtain⟨b,rfl,_⟩:=d;rfl
 |rptr r o=>obtain⟨b,c,rfl,_⟩:=d;rfl
 |fn f q| bnd f q| iface t a=>obtain⟨b,rfl,_⟩:=d;rfl
 |ptr l o=>obtain⟨b,c,h1,h2,rfl⟩:=d;rfl
 |own l n=>obtain⟨_,_,_,_,_,_,_,rfl,_⟩:=d;rfl
 |optr l n i o=>obtain⟨_,_,_,_,_,_,rfl,_⟩:=d;rfl
 |mp l=>obtain⟨_,_,_,_,rfl⟩:=d;rfl
 |tptr t l o=>obtain⟨_,_,_,_,rfl,_⟩:=d;rfl
 |town t l n| vw l n a m=>obtain⟨_,_,_,_,_,_,_,rfl,_⟩:=d;rfl
theorem ZfY:∀{cs:List AV} {vs:List Value},singles cs=true→RepL μ h w cs vs→∀v∈vs,v.oneCell'=true
 |[],vs,_,r,v,d=>by have:vs=[]:=r;subst this;simp at d
 |c::cs,_,hs,r,v,d=>by
  obtain⟨u,k,rfl,h1,h2⟩:=r;simp only[singles,VA]at hs;rcases Vn.1 d with rfl|d
  ·exact Zoa hs.1 h1
  exact ZfY hs.2 h2 v d
theorem Zt3(e:J9 P t=some n):(sizeOf t).run P w=.ok n w:=by
 unfold J9 at e;split at e
 ·rename_i i hi;simp only[Va]at e;simp[sizeOf,typeInfo,hi,e]
 simp at e
theorem Zkk{cur:Array Value}(d:J9 P t=some v.cells.toList.length)(k:w.heap[b]?=some (.cells cur T (0,0)))(q:p+v.cells.toList.length≤cur.size)
  (h1:∀u∈v.cells.toList,u.oneCell'=true):(Instr.storeAt t (.pointer (some ⟨b,p,none⟩)) v).run P w=.ok () (w.setRow b (cur.toList.take p++v.cells.toList++cur.toList.drop (p+v.cells.toList.length)).toArray):=by
 have h2:=run_storeCells_at (P:=P) b p T v.cells.toList 0 cur w k (by simpa using q) h1;have h3:v.cells.size=v.cells.toList.length:=by simp
 simp only[Instr.storeAt,Instr.sureAddr,pure_bind,storeVar,VQ,Zt3 d,VF,Se];rw[Vm (by omega)];simpa using h2
theorem Zf0{μ':Mp Bs}(d:(execOp a.eval o).run P w=.ok .skip w')(k:Rel μ' h' w')(q:Ext μ h w μ' h' w'):Wb P o a μ h w .any h':=by intro next Q A;unfold Oper.wp;rw[d];exact A undef μ' w' k q trivial
theorem JR(l us:List Value)(p i:Nat)(k:p+us.length≤l.length):(l.take p++us++l.drop (p+us.length))[i]?=if i<p then l[i]? else if i<p+us.length then us[i-p]? else l[i]?:=by
 have h1:(l.take p).length=p:=by simp;omega
 by_cases hi:i<p
 ·rw[Vr hi,Vo,Vh (by omega),Us,Vr hi]
 rw[Vm hi];by_cases d:i<p+us.length
 ·rw[Vr d,Vo,Vy (by omega),Vh (by omega),h1]
 rw[Vm d,Vy (by simp;omega),Uc];congr 1;simp;omega
theorem Zgw(d:Rel μ h w)(a:AV)(v:Value)(r:Rep μ h w a v):Rep μ h w (Zno h a) v:=by
 unfold Zno;split
 ·rename_i x k;exact Rep.pure _ _ (XQ d _ _ _ k r)
 exact r
theorem ZoU{y z:Operand}{ev:Operand→AV}(hr:Rel μ h w)(he:XF μ h w ev a.eval)(ho:o.op=.store t y z)(e:ZfU P t (ev y) (ev z) h=some h'):Wb P o a μ h w .any h':=by
 have hy:=he y;have hz:=he z;have G:execOp a.eval o=(do Instr.storeAt t (a.eval y) (a.eval z);pure .skip):=by simp only[execOp,ho]
 unfold ZfU at e;split at e
 ·rename_i l p a0;rw[a0]at hy;split at e
  ·rename_i cs W;split at e
   ·rename_i ns a1;split at e
    ·rename_i A;obtain⟨a2,ad⟩:=A;simp only[Va]at e;subst e;obtain⟨H,B⟩:=XX a1 hz;obtain⟨al,b,U,S,hv⟩:=hy;obtain⟨b',vs,T,J,L,ae,X⟩:=hr.blk l _ W;have:b'=b:=by rw[S]at J;simpa using J.symm
     subst this;have D:=B.len;have af:=X.len;have k:p+(a.eval z).cells.toList.length≤vs.length:=by omega
     have N:=Zkk (P:=P) (t:=t) (b:=b') (p:=p) (v:=a.eval z) (cur:=vs.toArray) (T:=T) (w:=w) (by rw[D];exact a2) L (by simpa using k) (ZfY H B);have O:Ext μ h w μ (h.set l (.cells (splice cs p ns))) (w.setRow b' (vs.take p++(a.eval z).cells.toList++vs.drop (p+(a.eval z).cells.toList.length)).toArray) :=
      Ext.update hr W S L (U8 w b' _ _ T _ L) (fun b2 E=>Sb w b' b2 _ E) rfl rfl rfl (by simp)
       (by simp;simp at k;omega) (fun _ _ _ a3=>absurd trivial a3) (fun _ _=>trivial) trivial
     refine Zf0 (w':=w.setRow b' (vs.take p++(a.eval z).cells.toList++vs.drop (p+(a.eval z).cells.toList.length)).toArray) ?_ (Rel.update hr W S (fun b2 E=>Sb w b' b2 _ E) O ?_) O
     ·rw[G,hv];simp only[VQ,N,VF,V0]
     exact⟨b',_,T,S,U8 w b' _ _ T _ L,ZcX p ae H,RepL.splice p (RepL.ext O cs vs X) (RepL.ext O ns _ B)⟩
    simp at e
   simp at e
  simp at e
 ·rename_i l n i p a0;rw[a0]at hy;split at e
  ·rename_i d rs W
   ·split at e
    ·rename_i ns a1;split at e
     ·rename_i hn;split at e
      ·rename_i row Y;split at e
       ·rename_i A;obtain⟨a2,ad⟩:=A;simp only[Va]at e;subst e;obtain⟨H,B⟩:=XX a1 (Zgw hr _ _ hz);obtain⟨z',am,an,b,U,_,hv,ag⟩:=hy;rw[W]at U;simp only[Va,Blk.rows.injEq]at U;obtain⟨rfl,rfl,rfl⟩:=U;have S:=ag hn.symm;have D:=B.len;rcases hr.blk l _ W with⟨_,h0⟩|⟨b',vs,T,J,L,a4,a9⟩
        ·rw[S]at h0;simp at h0
        have:b'=b:=by rw[S]at J;simpa using J.symm
        subst this;obtain⟨fz,L,a5⟩:=L;have a5:fz=(0,0):=by
         rcases a5 with h|h
         ·exact h
         exact absurd h.1 (by simp)
        subst a5;obtain⟨ao,ah,aa⟩:=a9 i row Y;have hi:i<rs.length:=(Vb.1 Y).1;have ab:i*d+d≤rs.length*d:=by rw[←Un];exact VT d hi
        have k:i*d+p+(a.eval z).cells.toList.length≤vs.size:=by omega
        have N:=Zkk (P:=P) (t:=t) (b:=b') (p:=i*d+p) (v:=a.eval z) (cur:=vs) (T:=T) (w:=w) (by rw[D];exact a2) L k (ZfY H B);have Q:(vs.toList.take (i*d+p)++(a.eval z).cells.toList++vs.toList.drop (i*d+p+(a.eval z).cells.toList.length)).toArray.size=vs.size:=by simp;simp at k;omega
        have O:Ext μ h w μ (h.set l (.rows d (rs.set i (splice row p ns)) true)) (w.setRow b' (vs.toList.take (i*d+p)++(a.eval z).cells.toList++vs.toList.drop (i*d+p+(a.eval z).cells.toList.length)).toArray) :=
         Ext.update hr W S L (U8 w b' _ _ T _ L) (fun b2 E=>Sb w b' b2 _ E) rfl rfl rfl (by simp)
          Q (fun _ _ _ a3=>absurd (.inl rfl) a3) (fun _ _=>.inl rfl) ⟨rfl,by simp⟩
        refine Zf0 (w':=w.setRow b' (vs.toList.take (i*d+p)++(a.eval z).cells.toList++vs.toList.drop (i*d+p+(a.eval z).cells.toList.length)).toArray) ?_ (Rel.update hr W S (fun b2 E=>Sb w b' b2 _ E) O ?_) O
        ·rw[G,hv];simp only[VQ,N,VF,V0]
        refine .inr ⟨b',_,T,S,.free (U8 w b' _ _ T _ L),by rw[Q];simpa using a4,?_⟩;intro i2 ac q;have Z:=JR vs.toList (a.eval z).cells.toList (i*d+p);by_cases a6:i=i2
        ·subst a6;rw[Vf hi]at q;simp only[Va]at q;subst q;refine⟨by unfold splice;simp;omega,ZcX p ah H,fun c a' A=>?_⟩;have ai:c<row.length:=by have:=(Vb.1 A).1;unfold splice at this;simp at this;omega
         simp only[VU];rw[Z _ (by simpa using k)];unfold splice at A;by_cases aj:c<p
         ·rw[Vr (by omega)];rw[Vo,Vh (by simp;omega),Us,Vr aj]at A;obtain⟨u,h7,h8⟩:=aa c a' A;exact⟨u,by simpa using h7,Rep.ext O a' u h8⟩
         rw[Vm (by omega)];by_cases ap:c<p+ns.length
         ·rw[Vr (by omega)];rw[Vo,Vy (by simp;omega),Vh (by simp;omega)]at A;obtain⟨u,h7,h8⟩:=(RepL.at ns _ B).2 _ a' A;refine⟨u,?_,Rep.ext O a' u h8⟩;rw[←h7];congr 1;simp;omega
         rw[Vm (by omega)];rw[Vy (by simp;omega),Uc]at A;have ak:row[c]?=some a':=by rw[←A];congr 1;simp;omega
         obtain⟨u,h7,h8⟩:=aa c a' ak;exact⟨u,by simpa using h7,Rep.ext O a' u h8⟩
        rw[Vc a6]at q;obtain⟨h4,h5,h6⟩:=a9 i2 ac q;refine⟨h4,h5,fun c a' A=>?_⟩;obtain⟨u,h7,h8⟩:=h6 c a' A;refine⟨u,?_,Rep.ext O a' u h8⟩;have ai:c<d:=by rw[←h4];exact(Vb.1 A).1
        simp only[VU];rw[Z _ (by simpa using k)];have a7:i2*d+c<i*d+p∨i*d+p+(a.eval z).cells.toList.length≤i2*d+c:=by
         rcases Sy a6 with a8|a8
         ·right;have:i*d+d≤i2*d:=by rw[←Un];exact VT d a8
          omega
         left;have:i2*d+d≤i*d:=by rw[←Un];exact VT d a8
         omega
        rcases a7 with hd|hd
        ·rw[Vr hd];simpa using h7
        rw[Vm (by omega),Vm (by omega)];simpa using h7
       simp at e
      simp at e
     simp at e
    simp at e
  simp at e
 simp at e
theorem ZsL(Q:PRows M w z b rs p):
  ∃flat:List Value,flat.length=rs.length*z∧(∀j v,flat[j]?=some v→w.cell? ⟨b,p+j,none⟩=some v)∧RowsIn M w z rs flat.toArray:=by
 have k:∀(i:Nat) (row:List AV),rs[i]?=some row→row.length=z∧singles row=true∧∀c a,row[c]?=some a→∃v,w.cell? ⟨b,p+(i*z+c),none⟩=some v∧PRep M w a v:=by intro i row d;obtain⟨h1,h2,h3⟩:=PRows.at rs p Q i row d;refine⟨h1,h2,fun c a B=>?_⟩;obtain⟨v,q,_,D⟩:=PMem.at row _ h3 c a B;exact⟨v,by rw[←UL];exact q,D⟩
 obtain⟨flat,H,J⟩:=ZpG (fun j=>w.cell? ⟨b,j,none⟩) p (rs.length*z) fun j L=>by
  have N:0<z:=by
   rcases Ut z with E|E
   ·subst E;simp at L
   exact E
  have hi:j/z<rs.length:=(Nat.div_lt_iff_lt_mul N).2 L;obtain⟨h1,_,h3⟩:=k (j/z) _ (VB hi);have O:j%z<(rs[j/z]).length:=by rw[h1];exact Nat.mod_lt _ N
  obtain⟨v,q,_⟩:=h3 (j%z) _ (VB O);refine⟨v,?_⟩
  rwa [show j/z*z+j%z=j from by rw[SD];exact Nat.div_add_mod j z]at q
 refine⟨flat,H,J,fun i row d=>?_⟩;obtain⟨h1,h2,h3⟩:=k i row d;refine⟨h1,h2,fun c a B=>?_⟩;obtain⟨v,q,D⟩:=h3 c a B;refine⟨v,?_,D⟩;have hi:i<rs.length:=(Vb.1 d).1;have O:c<z:=by rw[←h1];exact(Vb.1 B).1
 have A:i*z+c<flat.length:=by
  rw[H];have:i*z+z≤rs.length*z:=by rw[←Un];exact VT z hi
  omega
 have G:=J (i*z+c) _ (VB A);rw[q]at G;simp only[Va]at G;rw[VU,VB A,G]
theorem ZaV{flat:List Value}(J:flat.length=rs.length*z)(A:RowsN μ h w z rs flat.toArray):∀v∈flat,v.oneCell'=true:=by
 intro v L;obtain⟨j,E⟩:=List.getElem?_of_mem L;have d:j<rs.length*z:=by rw[←J];exact(Vb.1 E).1
 have G:0<z:=by
  rcases Ut z with B|B
  ·subst B;simp at d
  exact B
 have hi:j/z<rs.length:=(Nat.div_lt_iff_lt_mul G).2 d;obtain⟨h1,h2,h3⟩:=A (j/z) _ (VB hi);have H:j%z<(rs[j/z]).length:=by rw[h1];exact Nat.mod_lt _ G
 obtain⟨u,D,N⟩:=h3 (j%z) _ (VB H);rw[show j/z*z+j%z=j from by rw[SD];exact Nat.div_add_mod j z]at D;simp only[VU,E,Va]at D;subst D;have hs:single ((rs[j/z])[j%z])=true:=by
  have:∀(l:List AV) (k:Nat) (q:k<l.length),singles l=true→single l[k]=true:=by
   intro l
   induction l with
   |nil=>intro k q;simp at q
   |cons y l O =>
    intro k q hs;simp only[singles,VA]at hs;cases k with
    |zero=>exact hs.1
    |succ k=>exact O k (by simpa using q) hs.2
  exact this _ _ H h2
 exact Zoa hs N
theorem RowsIn.append{rest:List Value}(E:fl.length=rs.length*z)(B:RowsIn M w z rs fl.toArray)(D:RowsIn M w z ys fy.toArray):
  RowsIn M w z (rs++ys) (fl++fy++rest).toArray:=by
 intro i row d;by_cases hi:i<rs.length
 ·rw[Vh hi]at d;obtain⟨h1,h2,h3⟩:=B i row d;refine⟨h1,h2,fun c a q=>?_⟩;obtain⟨v,k,A⟩:=h3 c a q;refine⟨v,?_,A⟩;simp only[VU]at k ⊢;have:=(Vb.1 k).1;rw[Vo,Vh this];exact k
 rw[Vy (by omega)]at d;obtain⟨h1,h2,h3⟩:=D _ row d;refine⟨h1,h2,fun c a q=>?_⟩;obtain⟨v,k,A⟩:=h3 c a q;refine⟨v,?_,A⟩;simp only[VU]at k ⊢;have G:=(Vb.1 k).1;have H:i*z=rs.length*z+(i-rs.length)*z:=by rw[←Uj];congr 1;omega
 rw[Vo,Vy (by omega),Vh (by omega),←k];congr 1;omega
theorem RowsN.append{rest:List Value}(E:fl.length=rs.length*z)(B:RowsN μ h w z rs fl.toArray)(D:RowsN μ h w z ys fy.toArray):
  RowsN μ h w z (rs++ys) (fl++fy++rest).toArray:=by
 intro i row d;by_cases hi:i<rs.length
 ·rw[Vh hi]at d;obtain⟨h1,h2,h3⟩:=B i row d;refine⟨h1,h2,fun c a q=>?_⟩;obtain⟨v,k,A⟩:=h3 c a q;refine⟨v,?_,A⟩;simp only[VU]at k ⊢;have:=(Vb.1 k).1;rw[Vo,Vh this];exact k
 rw[Vy (by omega)]at d;obtain⟨h1,h2,h3⟩:=D _ row d;refine⟨h1,h2,fun c a q=>?_⟩;obtain⟨v,k,A⟩:=h3 c a q;refine⟨v,?_,A⟩;simp only[VU]at k ⊢;have G:=(Vb.1 k).1;have H:i*z=rs.length*z+(i-rs.length)*z:=by rw[←Uj];congr 1;omega
 rw[Vo,Vy (by omega),Vh (by omega),←k];congr 1;omega
theorem Zav{len:Nat}{flat:List Value}(d:flat.length=n*z)(k:∀j v,flat[j]?=some v→w.cell? ⟨b,p+j,none⟩=some v)(w1:World)(h1:w1.heap=w.heap):
  (Builtin.firstCells z n (.slice (some ⟨b,p,none⟩) len cap)).run P w1=.ok flat.toArray w1:=by
 have:=SU (P:=P) w1 ⟨b,p,none⟩ flat fun j v q=>by rw[W6];have:=k j v q;simpa only[World.cell?,h1]using this
 simp only[Builtin.firstCells,←d];exact this
theorem Zj1(n:Nat):∀(r c:Nat),256≤c→c≤2*n→Builtin.growBy n r c≤2*n
 |0,c,_,h=>h
 |r+1,c,h1,h2=>by
  simp only[Builtin.growBy];split
  ·exact h2
  exact Zj1 n r _ (by omega) (by omega)
theorem ZpP{d:Nat}(k:cap<d):Builtin.nextslicecap d cap≤2*d:=by
 unfold Builtin.nextslicecap;split
 ·omega
 split
 ·omega
 exact Zj1 d 4 cap (by omega) (by omega)
def Src(P:Program)(μ:Mp Bs)(h:Za)(w:World)(z:Nat)(ys:List (List AV))(v:Value):Prop :=
 ∃base cap flat,v=.slice base ys.length cap∧List.length flat=ys.length*z∧RowsN μ h w z ys flat.toArray∧∀w1:World,w1.heap=w.heap→(Builtin.firstCells z ys.length v).run P w1=.ok flat.toArray w1
def ZvV(P:Program)(μ:Mp Bs)(h:Za)(w:World)(z:Nat)(ys:List (List AV))(v:Value):Prop :=
 ∃flat,(∀w1:World,(Builtin.lenOf v).run P w1=.ok ys.length w1)∧List.length flat=ys.length*z∧RowsN μ h w z ys flat.toArray∧∀w1:World,w1.heap=w.heap→(Builtin.firstCells z ys.length v).run P w1=.ok flat.toArray w1
theorem Src.two(hs:Src P μ h w z ys v):ZvV P μ h w z ys v:=by obtain⟨base,cap,flat,rfl,h1,h2,h3⟩:=hs;exact⟨flat,fun _=>rfl,h1,h2,h3⟩
theorem Y6:∀s:List UInt8,(Ya s).length=s.length
 |[]=>rfl
 |b::r=>by simp[Ya,Y6 r]
theorem ZbH:∀(s:List UInt8) (i:Nat),(Ya s)[i]?=s[i]?.map fun b=>[.int .u8 (b.toNat:Int)]
 |[],i| b::r,0=>by simp[Ya]
 |b::r,i+1=>by simp only[Ya,VJ];exact ZbH r i
theorem Zx8{s:List UInt8}:ZvV P μ h w 1 (Ya s) (.string ⟨s.toArray⟩):=by
 refine⟨s.map fun b=>.int .u8 (b.toNat:Int),fun w1=>by rw[Y6];rfl,by simp[Y6],fun i row d=>?_,fun w1 _=>?_⟩
 ·rw[ZbH]at d;cases k:s[i]? with
  |none=>rw[k]at d;simp at d
  |some b =>
   rw[k]at d;simp only[Ue,Va]at d;subst d;refine⟨rfl,rfl,fun c a q=>?_⟩;have A:c=0:=by have:=(Vb.1 q).1;simp at this;exact this
   subst A;simp only[Vt,Va]at q;subst q;exact⟨.int .u8 (b.toNat:Int),by simp[k],rfl⟩
 rw[Y6];have:s.length=(⟨s.toArray⟩:ByteArray).size:=rfl;rw[this,Lib.run_firstCells_string];simp[Lib.strCells]
theorem Zd7(B:Y1 z ys=true)(D:ys=[]∨∃b p z',base=some ⟨b,p,none⟩∧PRows (Mut μ h) w z' b ys p):Src P μ h w z ys (.slice base ys.length cap):=by
 rcases D with rfl|⟨b,p,z',rfl,A⟩
 ·refine⟨base,cap,[],rfl,by simp,fun i row d=>by simp at d,fun w1 _=>?_⟩;cases base with
  |none=>rfl
  |some E =>
   simp only[Builtin.firstCells,VI,Ph];exact SU (P:=P) w1 E [] fun j v k=>by simp at k
 cases ys with
 |nil =>
  refine⟨_,cap,[],rfl,by simp,fun i row d=>by simp at d,fun w1 _=>?_⟩;simp only[Builtin.firstCells,VI,Ph];exact SU (P:=P) w1 _ [] fun j v k=>by simp at k
 |cons y ys =>
  have q:z'=z:=by have h1:=(PRows.at _ p A 0 y rfl).1;have h2:=Qw B 0 y rfl;omega
  subst q;obtain⟨flat,h1,h2,h3⟩:=ZsL A;exact⟨_,cap,flat,rfl,h1,h3.some,Zav h1 h2⟩
theorem Zia(Y:Rel μ h w)(U:h[l]?=some (.rows z rs wr))(L:rs.length=n)(N:OwnRep μ h w l n v):
  ∃base cap flat,v=.slice base rs.length cap∧rs.length≤cap∧List.length flat=rs.length*z∧RowsN μ h w z rs flat.toArray∧(∀w1:World,w1.heap=w.heap→(Builtin.firstCells z rs.length v).run P w1=.ok flat.toArray w1) ∧
   ((cap=0∧rs=[])∨∃b vs T,base=some ⟨b,0,none⟩∧μ l=some b∧RowAt w b vs T wr (rs.length*z)∧cap*z≤vs.size∧flat=vs.toList.take (rs.length*z)):=by
 obtain⟨z',Z,a0,base,cap,q,_,rfl,N⟩:=N;rw[U]at q;simp only[Va,Blk.rows.injEq]at q;obtain⟨rfl,rfl,rfl⟩:=q;obtain⟨hc,_,hb⟩:=N L.symm;rcases hb with rfl|⟨b,vs,T,rfl,O,E,G⟩
 ·have J:rs=[]:=VS.1 (by omega);subst J;have Q:n=0:=by simpa using L.symm
  subst Q;refine⟨base,0,[],rfl,Vw _,by simp,fun i row d=>by simp at d,fun w1 _=>?_,.inl ⟨rfl,rfl⟩⟩;cases base with
  |none=>rfl
  |some ad =>
   simp only[Builtin.firstCells,VI,Ph];exact SU (P:=P) w1 ad [] fun j v D=>by simp at D
 have W:rs.length*z≤vs.size:=Uu (VT z (by omega)) G;obtain⟨S,E⟩:=E;have k:(S=(0,0)∨(wr=false∧S.2≤rs.length*z))∧RowsN μ h w z rs (vs.toList.take (rs.length*z)).toArray:=by
  rcases Y.blk l _ U with⟨_,J⟩|⟨b',a1,T',H,⟨a2,A,B⟩,_,k⟩
  ·rw[O]at J;simp at J
  have e:b'=b:=by rw[O]at H;simpa using H.symm
  subst e;rw[E]at A;simp only[Va,SB]at A;obtain⟨rfl,rfl,rfl⟩:=A;refine⟨B,?_⟩;intro i row d;obtain⟨h1,h2,h3⟩:=k i row d;refine⟨h1,h2,fun c a X=>?_⟩;obtain⟨u,h4,h5⟩:=h3 c a X;refine⟨u,?_,h5⟩;have hi:i<rs.length:=(Vb.1 d).1;have a3:c<z:=by rw[←h1];exact(Vb.1 X).1
  have:i*z+z≤rs.length*z:=by rw[←Un];exact VT z hi
  simp only[VU];rw[Us,Vr (by omega)];simpa using h4
 obtain⟨B,k⟩:=k;refine⟨_,cap,vs.toList.take (rs.length*z),by rw[L],by omega,by simp;omega,k,?_,.inr ⟨b,vs,T,rfl,O,⟨S,E,B⟩,G,rfl⟩⟩;refine Zav (by simp;omega) fun j v D=>?_;rw[Us]at D;split at D
 ·simp only[World.cell?,E,VZ];simpa using D
 simp at D
def Xo(w:World):World:={w with drawn:=w.drawn+1}
theorem Zbv(d:Rel μ h w):Rel μ h (Xo w):=d.heap_eq rfl rfl rfl rfl
theorem drew_ext:Ext μ h w μ h (Xo w):=Ext.heap_eq rfl rfl rfl rfl
def ZeB(P:Program)(u:TypeId):Prop:=(∃e,P.underlying u=some (.slice e))∨P.underlying u=some .string
theorem ZaU{t:TypeId}{i:TypeInfo}{y:Value}{n k:Nat}{old new:List Value}
  (O:at_[0]?=some t) (h1:at_[1]?=some u) (Q:P.underlying t=some (.slice e)) (d:ZeB P u) (hi:P.info? e=some i) (U:i.zero=some y)
  (D:∀w:World,(Builtin.lenOf src).run P w=.ok k w) (q:cap<n+k) (A:(n+k)*(i.bytes+1)≤Zp) (E:(Builtin.firstCells i.size n (.slice base n cap)).run P (Xo w)=.ok old.toArray (Xo w)) (G:(Builtin.firstCells i.size k src).run P (Xo w)=.ok new.toArray (Xo w)) :
  ∃c,n+k≤c∧(Builtin.append_ at_ ty #[.slice base n cap,src]).run P w =
   .ok (.slice (some ⟨w.heap.size,0,none⟩) (n+k) c) ((Xo w).alloc (.cells (old.toArray++new.toArray++Builtin.zeroCells y.cells (c-(n+k))) e)):=by
 have S:¬(Builtin.nextslicecap (n+k) cap*i.bytes>2^48):=by
  have h2:=ZpP q;have h3:Builtin.nextslicecap (n+k) cap*i.bytes≤2*(n+k)*(i.bytes+1):=Pi h2 (by omega);have X:2*(n+k)*(i.bytes+1)=2*((n+k)*(i.bytes+1)):=by rw[Nat.mul_assoc]
  unfold Zp at A;omega
 have H:¬(((n+k:Nat):Int)>IntKind.i64.max∧(False∨i.bytes=0)):=by
  have Y:n+k≤(n+k)*(i.bytes+1):=Nat.le_mul_of_pos_right _ (by omega);have:IntKind.i64.max=9223372036854775807:=by decide
  rw[this];unfold Zp at A;omega
 obtain⟨c,W,B⟩:∃c,n+k≤c∧(choose (.appendCap (n+k) cap e)).run P w=.ok c (Xo w):=by refine⟨_,?_,by simp only[run_choose,Question.forced,V6,UA];rfl⟩;simp only[Question.cut];omega
 refine⟨c,W,?_⟩;have J:∀w:World,(zeroValue e).run P w=.ok y w:=fun w=>by simp[zeroValue,typeInfo,hi,U]
 have L:∀w:World,(sizeOf e).run P w=.ok i.size w:=fun w=>by simp[sizeOf,typeInfo,hi]
 have N:∀w:World,(typeInfo e).run P w=.ok i w:=fun w=>by simp[typeInfo,hi]
 rcases d with⟨e',d⟩|d
 ·simp only[Builtin.append_,O,h1,VQ,Vs Q,Vs d,VF,V0,VU,Vt,VJ,L,V6,UA,D,Se,Vm (Nat.not_le.2 q),N,
   Vm H,Vm S,B,PV,E,VN,V7,G,J,newRow,PS]
  rfl
 simp only[Builtin.append_,O,h1,VQ,Vs Q,Vs d,VF,V0,VU,Vt,VJ,L,V6,UA,D,Se,Vm (Nat.not_le.2 q),N,
  Vm H,Vm S,B,PV,E,VN,V7,G,J,newRow,PS]
 rfl
theorem JN{t:TypeId}{i:TypeInfo} 
  (D:at_[0]?=some t) (h1:at_[1]?=some u) (E:P.underlying t=some (.slice e)) (d:ZeB P u) (hi:P.info? e=some i)
  (k:∀w:World,(Builtin.lenOf src).run P w=.ok 0 w) (q:(Builtin.firstCells i.size 0 src).run P w=.ok #[] w) :
  (Builtin.append_ at_ ty #[.slice base 0 0,src]).run P w=.ok (.slice base 0 0) w:=by
 have A:∀w:World,(sizeOf e).run P w=.ok i.size w:=fun w=>by simp[sizeOf,typeInfo,hi]
 have B:∀a:Addr,(storeCells a [] 0).run P w=.ok () w:=fun a=>rfl;cases base<;>rcases d with⟨e',d⟩|d
 all_goals simp only[Builtin.append_,D,h1,VQ,Vs E,Vs d,VF,V0,VU,Vt,VJ,A,V6,UA,k,Se,Ug,Vw,V7,VN,q,B]
theorem Zco{t:TypeId}{i:TypeInfo}{n k:Nat}{new:List Value}{H:Nat×Nat}
  (Q:at_[0]?=some t) (h1:at_[1]?=some u) (S:P.underlying t=some (.slice e)) (d:ZeB P u) (hi:P.info? e=some i)
  (A:∀w:World,(Builtin.lenOf src).run P w=.ok k w) (q:n+k≤cap) (U:w.heap[b]?=some (.cells vs T H)) (J:H.2≤n*i.size) (L:cap*i.size≤vs.size) (W:new.length=k*i.size) (N:∀v∈new,v.oneCell'=true)
  (B:(Builtin.firstCells i.size k src).run P w=.ok new.toArray w) :
  (Builtin.append_ at_ ty #[.slice (some ⟨b,0,none⟩) n cap,src]).run P w =
   .ok (.slice (some ⟨b,0,none⟩) (n+k) cap) (w.setRow b (vs.toList.take (n*i.size)++new++vs.toList.drop (n*i.size+new.length)).toArray):=by
 have G:∀w:World,(sizeOf e).run P w=.ok i.size w:=fun w=>by simp[sizeOf,typeInfo,hi]
 have O:n*i.size+new.length≤vs.size:=by rw[W,←Uj];exact Uu (VT _ q) L
 have E:=run_storeCells_atF P b (n*i.size) T H new 0 vs w U (by simpa using J) (by simpa using O) N;simp only[Ug]at E;have D:(⟨b,0,none⟩:Addr).add (n*i.size)=⟨b,n*i.size,none⟩:=by rw[W6,VZ]
 rcases d with⟨e',d⟩|d
 ·simp only[Builtin.append_,Q,h1,VQ,Vs S,Vs d,VF,V0,VU,Vt,VJ,G,V6,UA,A,Se,q,V7,VN,B,D,E]
 simp only[Builtin.append_,Q,h1,VQ,Vs S,Vs d,VF,V0,VU,Vt,VJ,G,V6,UA,A,Se,q,V7,VN,B,D,E]
theorem ZnG{t:TypeId}{i:TypeInfo} 
  (D:at_[0]?=some t) (h1:at_[1]?=some u) (E:P.underlying t=some (.slice e)) (d:ZeB P u) (hi:P.info? e=some i) (G:n≤cap)
  (k:∀w:World,(Builtin.lenOf src).run P w=.ok 0 w) (q:(Builtin.firstCells i.size 0 src).run P w=.ok #[] w) :
  (Builtin.append_ at_ ty #[.slice base n cap,src]).run P w=.ok (.slice base n cap) w:=by
 have A:∀w:World,(sizeOf e).run P w=.ok i.size w:=fun w=>by simp[sizeOf,typeInfo,hi]
 have B:∀a:Addr,(storeCells a []).run P w=.ok () w:=fun a=>by simp[storeCells]
 rcases d with⟨e',d⟩|d<;>cases base with
 |none=>simp only[Builtin.append_,D,h1,VQ,Vs E,Vs d,VF,V0,VU,Vt,VJ,A,V6,UA,k,Se,Ug,G,V7,VN,q]
 |some a=>simp only[Builtin.append_,D,h1,VQ,Vs E,Vs d,VF,V0,VU,Vt,VJ,A,V6,UA,k,Se,Ug,G,V7,VN,q,B]
theorem W9{k:Blk}(d:h[l]?=some k):h.set l k=h:=by
 apply UD;intro i;by_cases hi:l=i
 ·subst hi;rw[Vf (Vb.1 d).1];exact d.symm
 rw[Vc hi]
theorem Ext.move{rs q:List (List AV)}(N:Rel μ h w)(D:h[l]?=some (.rows z rs wr))(L:rs.length<q.length)(y:Obj):
  Ext μ h w (μ.set l (some w.heap.size)) (h.set l (.rows z q wr)) (w.alloc y) where
 out:=rfl
 still:=rfl
 os:=rfl
 tape:=rfl
 output:=rfl
 size:=by show _≤(w.alloc y).heap.size;simp
 keep:=fun b o v E J=>by
  have A:=ZeY E;refine⟨by simp only[World.cell?]at E ⊢;rw[Xr y A];exact E,?_⟩;rintro(B|⟨l',k',d,hm',B⟩)
  ·exact J (.inl B)
  by_cases k:l'=l
  ·subst k;rw[set_same]at hm';simp only[Va]at hm';omega
  rw[Zm _ k]at hm';rw[Vc (fun e=>k e.symm)]at d;exact J (.inr ⟨l',k',d,hm',B⟩)
 outside:=fun b A B=>by
  refine⟨Xr y A,fun l' d=>?_⟩;by_cases k:l'=l
  ·subst k;rw[set_same];simp;omega
  rw[Zm _ k];exact B l' (by simpa using d)
 len:=by simp
 maps:=fun l' es d=>by
  have k:l≠l':=fun e=>by subst e;rw[D]at d;simp at d
  exact⟨⟨es,by rw[Vc k];exact d⟩,Zm _ (fun e=>k e.symm)⟩
 cells:=fun l' cs d=>by
  have k:l≠l':=fun e=>by subst e;rw[D]at d;simp at d
  exact⟨⟨cs,by rw[Vc k];exact d⟩,Zm _ (fun e=>k e.symm)⟩
 rows:=fun l' z' G H d=>by
  by_cases k:l=l'
  ·subst k;rw[D]at d;simp only[Va,Blk.rows.injEq]at d;obtain⟨rfl,rfl,rfl⟩:=d;exact⟨q,wr,by rw[Vf (Vb.1 D).1],by omega,fun e=>by omega⟩
  exact⟨G,H,by rw[Vc k];exact d,Vw _,fun _=>Zm _ (fun e=>k e.symm)⟩
 sizes:=fun b vs T A=>⟨vs,A.eq (Xr y A.lt),rfl⟩
theorem Rel.move{l z:Nat}{rs E:List (List AV)}{wr:Bool}(k:Rel μ h w)(N:h[l]?=some (.rows z rs wr))(G:rs.length<E.length)(y:Obj)
  (Y:Zed (μ.set l (some w.heap.size)) (h.set l (.rows z E wr)) (w.alloc y) l (.rows z E wr)):Rel (μ.set l (some w.heap.size)) (h.set l (.rows z E wr)) (w.alloc y) where
 inj:=fun W X b H J q A=>by
  simp only[Vq]at H J;by_cases h1:W=l<;>by_cases h2:X=l
  ·omega
  ·subst h1;rw[set_same]at q;rw[Zm _ h2]at A;simp only[Va]at q;have:=k.mapped J A;omega
  ·subst h2;rw[set_same]at A;rw[Zm _ h1]at q;simp only[Va]at A;have:=k.mapped H q;omega
  rw[Zm _ h1]at q;rw[Zm _ h2]at A;exact k.inj W X b H J q A
 blk:=fun l' k' d=>by
  have e:=Ext.move k N G y;by_cases L:l=l'
  ·subst L;rw[Vf (Vb.1 N).1]at d;simp only[Va]at d;subst d;exact Y
  rw[Vc L]at d;have:=k.blk l' k' d;have B:l'≠l:=fun e=>L e.symm;cases k' with
  |cells cs =>
   obtain⟨b,vs,T,h3,D,O,U⟩:=this;exact⟨b,vs,T,by rw[Zm _ B];exact h3,by rw[Xr y (ZbW D)];exact D,O,RepL.ext e cs vs U⟩
  |rows z rs wr =>
   rcases this with⟨h3,D⟩|⟨b,vs,T,h3,D,O,U⟩
   ·exact .inl ⟨h3,by rw[Zm _ B];exact D⟩
   exact .inr ⟨b,vs,T,by rw[Zm _ B];exact h3,D.eq (Xr y D.lt),O,U.ext e⟩
  |hole =>
   show(μ.set l (some w.heap.size)) l'=none;rw[Zm _ B];exact this
  |map es =>
   obtain⟨b,ms,c,h3,D,O⟩:=this;exact⟨b,ms,c,by rw[Zm _ B];exact h3,by rw[Xr y (ZbW D)];exact D,O.keep e.keep⟩
 apart:=fun l' b o d Q S=>by
  by_cases h1:l'=l
  ·subst h1;rw[set_same]at Q;simp only[Va]at Q;have:=k.old b o S;omega
  rw[Zm _ h1]at Q;exact k.apart l' b o (by simpa using d) Q S
 old:=fun b o S=>Ur (k.old b o S) (Ext.move k N G y).size
 still:=(k.carry (Ext.move k N G y)).1
 base:=(k.carry (Ext.move k N G y)).2
theorem WG(zs:Array Value)(n:Nat):(Builtin.zeroCells zs n).size=n*zs.size:=by simp[Builtin.zeroCells]
def Zk8(P:Program)(μ:Mp Bs)(h:Za)(w:World)(s:Sem Value)(x:AV)(h':Za):Prop :=
 ∃u μ' w',s.run P w=.ok u w'∧Rel μ' h' w'∧Ext μ h w μ' h' w'∧Rep μ' h' w' x u
theorem ZmI{c:Nat}{flat:List Value}(L:Rel μ h w)(G:0<rs.length)(N:flat.length=rs.length*z)(E:RowsN μ h (Xo w) z rs flat.toArray)(H:rs.length≤c)(k:rest.size=(c-rs.length)*z)
  (q:s.run P w=.ok (.slice (some ⟨w.heap.size,0,none⟩) rs.length c) ((Xo w).alloc (.cells (flat.toArray++rest) T))):Zk8 P μ h w s (.own h.length rs.length) (h++[.rows z rs wr]):=by
 have A:=Zbv L;have J:=Ext.push A (.rows z rs wr) (some (.cells (flat.toArray++rest) T));have B:(flat.toArray++rest).size=c*z:=by simp only[PH,Pj,N,k];rw[←Uj];congr 1;omega
 have d:((Xo w).alloc (.cells (flat.toArray++rest) T)).heap[w.heap.size]?=some (.cells (flat.toArray++rest) T (0,0)):=Xi (w:=Xo w) _;refine⟨_,_,_,q,Rel.push A (.rows z rs wr) (some (.cells (flat.toArray++rest) T)) ?_,drew_ext.trans J,?_⟩
 ·refine .inr ⟨w.heap.size,flat.toArray++rest,T,set_same _ _,.free d,by rw[B];exact VT z H,?_⟩;have h2:=RowsN.append (μ:=μ) (h:=h) (w:=Xo w) (fl:=[]) (fy:=flat) (rest:=rest.toList) (rs:=[]) (ys:=rs) (z:=z) (by simp) (fun i row D=>by simp at D) E;have h3:([]++flat++rest.toList).toArray=flat.toArray++rest:=by apply UX;simp
  rw[h3]at h2;exact RowsN.ext J h2
 exact⟨z,rs,wr,_,c,by simp,Vw _,rfl,fun _=>⟨H,fun O=>by omega,.inr ⟨w.heap.size,flat.toArray++rest,T,rfl,set_same _ _,⟨_,d⟩,by rw[B];exact Vw _⟩⟩⟩
theorem Zqa{c:Nat}(U:Rel μ h w)(k:h[l]?=some (.rows z rs wr))(N:0<ys.length)(O:fl.length=rs.length*z)(J:RowsN μ h (Xo w) z rs fl.toArray)(L:fy.length=ys.length*z)(A:RowsN μ h (Xo w) z ys fy.toArray)
  (Q:rs.length+ys.length≤c) (q:rest.size=(c-(rs.length+ys.length))*z)
  (B:s.run P w=.ok (.slice (some ⟨w.heap.size,0,none⟩) (rs.length+ys.length) c) ((Xo w).alloc (.cells (fl.toArray++fy.toArray++rest) T))):Zk8 P μ h w s (.own l (rs.length+ys.length)) (h.set l (.rows z (rs++ys) wr)):=by
 have D:=Zbv U;have E:rs.length<(rs++ys).length:=by simp;omega
 have S:=Ext.move D k E (.cells (fl.toArray++fy.toArray++rest) T);have G:(fl.toArray++fy.toArray++rest).size=c*z:=by simp only[PH,Pj,O,L,q];rw[←Uj,←Uj];congr 1;omega
 have d:((Xo w).alloc (.cells (fl.toArray++fy.toArray++rest) T)).heap[w.heap.size]?=some (.cells (fl.toArray++fy.toArray++rest) T (0,0)):=Xi (w:=Xo w) _;have H:(rs++ys).length=rs.length+ys.length:=by simp
 refine⟨_,_,_,B,Rel.move D k E _ ?_,drew_ext.trans S,?_⟩
 ·refine .inr ⟨w.heap.size,_,T,set_same _ _,.free d,by rw[G,H];exact VT z Q,?_⟩;have h2:=RowsN.append (μ:=μ) (h:=h) (w:=Xo w) (fl:=fl) (fy:=fy) (rest:=rest.toList) (rs:=rs) (ys:=ys) (z:=z) O J A;have h3:(fl++fy++rest.toList).toArray=fl.toArray++fy.toArray++rest:=by apply UX;simp
  rw[h3]at h2;exact RowsN.ext S h2
 exact⟨z,rs++ys,wr,_,c,by rw[Vf (Vb.1 k).1],by omega,rfl,fun _=>⟨Q,fun W=>by omega,.inr ⟨w.heap.size,_,T,rfl,set_same _ _,⟨_,d⟩,by rw[G];exact Vw _⟩⟩⟩
theorem Zod{c:Nat}(U:Rel μ h w)(k:h[l]?=some (.rows z rs wr))(N:0<ys.length)(O:fl.length=rs.length*z)(J:RowsN μ h (Xo w) z rs fl.toArray)(L:fy.length=ys.length*z)(A:RowsN μ h (Xo w) z ys fy.toArray)
  (Q:rs.length+ys.length≤c) (q:rest.size=(c-(rs.length+ys.length))*z)
  (B:s.run P w=.ok (.slice (some ⟨w.heap.size,0,none⟩) (rs.length+ys.length) c) ((Xo w).alloc (.cells (fl.toArray++fy.toArray++rest) T))):Zk8 P μ h w s (.town T l (rs.length+ys.length)) (h.set l (.rows z (rs++ys) wr)):=by
 have D:=Zbv U;have E:rs.length<(rs++ys).length:=by simp;omega
 have S:=Ext.move D k E (.cells (fl.toArray++fy.toArray++rest) T);have G:(fl.toArray++fy.toArray++rest).size=c*z:=by simp only[PH,Pj,O,L,q];rw[←Uj,←Uj];congr 1;omega
 have d:((Xo w).alloc (.cells (fl.toArray++fy.toArray++rest) T)).heap[w.heap.size]?=some (.cells (fl.toArray++fy.toArray++rest) T (0,0)):=Xi (w:=Xo w) _;have H:(rs++ys).length=rs.length+ys.length:=by simp
 refine⟨_,_,_,B,Rel.move D k E _ ?_,drew_ext.trans S,?_⟩
 ·refine .inr ⟨w.heap.size,_,T,set_same _ _,.free d,by rw[G,H];exact VT z Q,?_⟩;have h2:=RowsN.append (μ:=μ) (h:=h) (w:=Xo w) (fl:=fl) (fy:=fy) (rest:=rest.toList) (rs:=rs) (ys:=ys) (z:=z) O J A;have h3:(fl++fy++rest.toList).toArray=fl.toArray++fy.toArray++rest:=by apply UX;simp
  rw[h3]at h2;exact RowsN.ext S h2
 exact⟨z,rs++ys,wr,_,c,by rw[Vf (Vb.1 k).1],by omega,rfl,fun _=>⟨Q,fun W=>by omega,.inr ⟨w.heap.size,_,rfl,set_same _ _,⟨_,d⟩,by rw[G];exact Vw _⟩⟩⟩
theorem ZdO{α:Type}(l us:List α)(p i:Nat)(k:p+us.length≤l.length):(l.take p++us++l.drop (p+us.length))[i]?=if i<p then l[i]? else if i<p+us.length then us[i-p]? else l[i]?:=by
 have d:(l.take p).length=p:=by simp;omega
 rw[Vo];by_cases h1:i<p
 ·rw[Vr h1,Vh (by omega),Us,Vr h1]
 rw[Vm h1,Vy (by omega),d];by_cases h2:i<p+us.length
 ·rw[Vr h2,Vh (by omega)]
 rw[Vm h2,Vy (by omega),Uc];congr 1;omega
theorem RowsN.splice(H:fy.length=ys.length*z)(J:RowsN μ h w z rs vs)(L:RowsN μ h w z ys fy.toArray)(E:m+ys.length≤rs.length)(D:rs.length*z≤vs.size):
  RowsN μ h w z (rs.take m++ys++rs.drop (m+ys.length)) (vs.toList.take (m*z)++fy++vs.toList.drop (m*z+fy.length)).toArray:=by
 have k:m*z+fy.length≤vs.toList.length:=by rw[H,←Uj];exact Uu (VT _ E) (by simpa using D)
 intro i row d;rw[ZdO rs ys m i E]at d;simp only[VU];have old:rs[i]?=some row→(i<m∨m+ys.length≤i)→row.length=z∧singles row=true∧∀c a,row[c]?=some a→∃v,(vs.toList.take (m*z)++fy++vs.toList.drop (m*z+fy.length))[i*z+c]?=some v∧Rep μ h w a v:=by
  intro d hi;obtain⟨h1,h2,h3⟩:=J i row d;refine⟨h1,h2,fun c a q=>?_⟩;obtain⟨v,N,O⟩:=h3 c a q;refine⟨v,?_,O⟩;have Q:c<z:=by rw[←h1];exact(Vb.1 q).1
  rw[ZdO _ _ _ _ k];have A:vs.toList[i*z+c]?=some v:=by simpa using N
  rcases hi with hi|hi
  ·have:i*z+z≤m*z:=by rw[←Un];exact VT z hi
   rw[Vr (by omega)];exact A
  have:(m+ys.length)*z≤i*z:=VT z hi;rw[Uj]at this;rw[Vm (by omega),Vm (by omega)];exact A
 by_cases h1:i<m
 ·rw[Vr h1]at d;exact old d (.inl h1)
 rw[Vm h1]at d;by_cases h2:i<m+ys.length
 ·rw[Vr h2]at d;obtain⟨G,S,U⟩:=L _ row d;refine⟨G,S,fun c a q=>?_⟩;obtain⟨v,W,X⟩:=U c a q;refine⟨v,?_,X⟩;have Q:c<z:=by rw[←G];exact(Vb.1 q).1
  have Y:i*z=m*z+(i-m)*z:=by rw[←Uj];congr 1;omega
  have B:fy[(i-m)*z+c]?=some v:=by simpa using W
  have Z:=(Vb.1 B).1;rw[ZdO _ _ _ _ k,Vm (by omega),Vr (by omega),←B];congr 1;omega
 rw[Vm h2]at d;exact old d (.inr (by omega))
theorem Zgx(N:Rel μ h w)(D:h[l]?=some (.rows z rs true))(q:μ l=some b)(E:w.heap[b]?=some (.cells vs T (0,0)))(A:rs.length*z≤vs.size)(G:RowsN μ h w z rs vs)
  (O:fy.length=ys.length*z) (S:RowsN μ h w z ys fy.toArray) (Q:m+ys.length≤rs.length) :
  (vs.toList.take (m*z)++fy++vs.toList.drop (m*z+fy.length)).toArray.size=vs.size ∧
  Rel μ (h.set l (.rows z (rs.take m++ys++rs.drop (m+ys.length)) true)) (w.setRow b (vs.toList.take (m*z)++fy++vs.toList.drop (m*z+fy.length)).toArray) ∧
  Ext μ h w μ (h.set l (.rows z (rs.take m++ys++rs.drop (m+ys.length)) true)) (w.setRow b (vs.toList.take (m*z)++fy++vs.toList.drop (m*z+fy.length)).toArray):=by
 have U:m*z+fy.length≤vs.size:=by rw[O,←Uj];exact Uu (VT _ Q) A
 have d:(vs.toList.take (m*z)++fy++vs.toList.drop (m*z+fy.length)).toArray.size=vs.size:=by simp;omega
 have k:(rs.take m++ys++rs.drop (m+ys.length)).length=rs.length:=by simp;omega
 have H:Ext μ h w μ (h.set l (.rows z (rs.take m++ys++rs.drop (m+ys.length)) true)) (w.setRow b (vs.toList.take (m*z)++fy++vs.toList.drop (m*z+fy.length)).toArray) :=
  Ext.update N D q E (U8 w b _ _ T _ E) (fun J B=>Sb w b J _ B) rfl rfl rfl (by simp)
   d (fun _ _ _ L=>absurd (.inl rfl) L) (fun _ _=>.inl rfl) ⟨rfl,by rw[k];exact Vw _⟩
 refine⟨d,Rel.update N D q (fun J B=>Sb w b J _ B) H (.inr ⟨b,_,T,q,.free (U8 w b _ _ T _ E),?_,?_⟩),H⟩
 ·rw[d,k];exact A
 exact(RowsN.splice O G S Q A).ext H
theorem Zaj{a:Nat}(J:Rel μ h w)(E:h[l]?=some (.rows z rs wr))(L:rs.length=n)(N:a<n)(O:VwRep μ h w l n a m v):
  ∃cap b vs T,v=.slice (some ⟨b,a*z,none⟩) m cap∧a+m≤n∧n≤a+cap∧μ l=some b∧RowAt w b vs T wr (rs.length*z)∧rs.length*z≤vs.size∧(a+cap)*z≤vs.size∧RowsN μ h w z rs vs:=by
 obtain⟨z2,Q,S,base,cap,h1,h2,rfl,U⟩:=O;rw[E]at h1;simp only[Va,Blk.rows.injEq]at h1;obtain⟨rfl,rfl,rfl⟩:=h1;obtain⟨W,X,Y⟩:=U L.symm;obtain⟨b,vs,T,rfl,A,⟨Z,G⟩,hz⟩:=Y N;rcases J.blk l _ E with⟨_,H⟩|⟨b',a0,T',k,⟨a1,d,B⟩,q,D⟩
 ·rw[A]at H;simp at H
 have e:b'=b:=by rw[A]at k;simpa using k.symm
 subst e;rw[G]at d;simp only[Va,SB]at d;obtain⟨rfl,rfl,rfl⟩:=d;exact⟨cap,b',vs,T,rfl,W,X,A,⟨Z,G,B⟩,q,hz,D⟩
theorem ZvN{a z' z:Nat}(Q:Rel μ h w)(S:h[l]?=some (.rows z' rs wr))(U:rs.length=n)(W:a+m≤n)(X:Y1 z (cut rs a (a+m))=true)(J:VwRep μ h w l n a m v):Src P μ h w z (cut rs a (a+m)) v:=by
 have d:(cut rs a (a+m)).length=m:=by rw[Zdu _ _ _ (by omega)];omega
 rcases Ut m with E|E
 ·have L:cut rs a (a+m)=[]:=VS.1 (by rw[d];exact E);obtain⟨z2,Y,Z,base,cap,h1,h2,rfl,h4⟩:=J;rw[L];subst E;exact Zd7 (ys:=[]) rfl (.inl rfl)
 obtain⟨cap,b,vs,T,rfl,h5,h6,hm,⟨fz,hw,a0⟩,G,a1,q⟩:=Zaj Q S U (by omega) J;have H:z'=z:=by
  have A:a<rs.length:=by omega
  have h7:=(q a _ (VB A)).1;have h8:=Qw X 0 rs[a] (by rw[Zdd,Vr (by omega),Ug];exact VB A);omega
 subst H;have B:((vs.toList.drop (a*z')).take (m*z')).length=m*z':=by have:(a+m)*z'≤vs.size:=Uu (VT _ (by omega)) G;rw[Uj]at this;simp;omega
 refine⟨_,cap,(vs.toList.drop (a*z')).take (m*z'),by rw[d],by rw[d];exact B,fun i row k=>?_,?_⟩
 ·rw[Zdd]at k;split at k
  ·rename_i hi;obtain⟨N,q2,q3⟩:=q (a+i) row k;refine⟨N,q2,fun c x O=>?_⟩;obtain⟨u,q4,q5⟩:=q3 c x O;refine⟨u,?_,q5⟩;have L:c<z':=by rw[←N];exact(Vb.1 O).1
   have:i*z'+z'≤m*z':=by rw[←Un];exact VT z' (by omega)
   simp only[VU];rw[Us,Vr (by omega),Uc,show a*z'+(i*z'+c)=(a+i)*z'+c by rw[Uj];omega];simpa using q4
  simp at k
 rw[d];refine Zav B fun j v D=>?_;rw[Us]at D;split at D
 ·rw[Uc]at D;simp only[World.cell?,hw];simpa using D
 simp at D
theorem Zso{y:Value}{cs:List AV}(B:cellsOf (JW y)=some cs)(k:cs.length=z)(q:y.cells.size=z):RowsIn (Mut μ h) w z (List.replicate j cs) (Builtin.zeroCells y.cells j):=fun r row d=>by
 obtain⟨hs,L⟩:=Zb1 (M:=Mut μ h) (w:=w) B (X9 y);rw[List.getElem?_replicate]at d;split at d
 ·rename_i D;simp only[Va]at d;subst d;refine⟨k,hs,fun c a' J=>?_⟩;obtain⟨v,h1,h2⟩:=L.at c a' J;refine⟨v,?_,h2⟩;have E:c<z:=by rw[←k];exact(Vb.1 J).1
  have G:r*z+c<j*y.cells.size:=by
   have:r*z+z≤j*z:=by rw[←Un];exact VT _ D
   rw[q];omega
  have A:(r*z+c)%y.cells.size=c:=by rw[q,SD,Nat.mul_add_mod];exact Nat.mod_eq_of_lt E
  have H:y.cells[c]?=some v:=by simpa using h1
  simp only[Builtin.zeroCells,Array.getElem?_map,Array.getElem?_range,G,V7,Ue,A];congr 1;rw[getElem!_def,H]
 simp at d
theorem Zmu{t:TypeId}{z bb:Nat}{x:AV}{zr:List AV}(h0:at_[0]?=some t)(J:es P t=some (z,bb))(d:Jp P t=some y)(L:cellsOf y=some zr)(N:Rel μ h w)(e:Zes h z zr x=some h')(hx:Rep μ h w x v):
  ∃w',(Builtin.clear_ at_ ty #[v]).run P w=.ok (.tuple #[]) w'∧Rel μ h' w'∧Ext μ h w μ h' w':=by
 obtain⟨el,i,y0,O,hi,rfl,rfl,hz,A⟩:=Zb4 J;unfold Zes at e;split at e
 ·rename_i l n a m;split at e
  ·rename_i sz rs Q;split at e
   ·rename_i hc;obtain⟨hn,rfl,a0,S⟩:=hc;simp only[Va]at e;subst e;rcases Ut m with B|B
    ·subst B;obtain⟨z2,a1,a2,base,cap,h1,h2,rfl,h4⟩:=hx;have hs:h.set l (.rows i.size (rs.take a++List.replicate 0 zr++rs.drop (a+0)) true)=h:=by simp only[List.replicate_zero,Vv,Ug,Si];exact W9 Q
     rw[hs];refine⟨w,?_,N,Ext.refl _ _ _⟩;cases base<;>simp[Builtin.clear_,h0,Vs O]
    obtain⟨cap,b,vs,T,rfl,h5,h6,hm,⟨fz,hw,U⟩,D,a3,W⟩:=Zaj N Q hn (by omega) hx;have E:fz=(0,0):=by
     rcases U with h|⟨h,_⟩
     ·exact h
     simp at h
    subst E;have hy:y=JW y0:=by unfold Jp at d;rw[O]at d;simp only[zv,hi,hz,Ue,Va]at d;exact d.symm
    subst hy;have X:RowsIn (Mut μ h) w i.size (List.replicate m zr) (Builtin.zeroCells y0.cells m):=Zso L S A;have q:(Builtin.zeroCells y0.cells m).toList.length=(List.replicate m zr).length*i.size:=by rw[Uh,SN,WG,A]
    have G:RowsN μ h w i.size (List.replicate m zr) (Builtin.zeroCells y0.cells m).toList.toArray:=by rw[S2];exact X.some
    obtain⟨q0,q1,q2⟩:=Zgx (m:=a) N Q hm hw D W q G (by rw[Uh];omega);rw[Uh]at q1 q2;have Y:a*i.size+(Builtin.zeroCells y0.cells m).toList.length≤vs.size:=by rw[q,Uh,←Uj];exact Uu (VT _ (by omega:a+m≤rs.length)) D
    have H:=run_storeCells_atF P b (a*i.size) T (0,0) (Builtin.zeroCells y0.cells m).toList 0 vs w hw (UB _) (by simpa using Y) (ZaV q G);simp only[Ug]at H;have Z:∀w:World,(zeroValue el).run P w=.ok y0 w:=fun w=>by simp[zeroValue,typeInfo,hi,hz]
    obtain⟨m,rfl⟩:∃k,m=k+1:=⟨m-1,by omega⟩;refine⟨_,?_,q1,q2⟩;simp only[Builtin.clear_,h0,VU,Vt,VQ,Vs O,VF,Z,H,V0]
   simp at e
  simp at e
 simp at e
theorem Zpa{y:AV}(D:Rel μ h w)(e:Zl3 h y=some ys)(d:Y1 z ys=true)(k:Rep μ h w y v):Src P μ h w z ys v:=by
 unfold Zl3 at e;split at e
 ·simp only[Va]at e;subst e;obtain⟨base,cap,rfl,_,q⟩:=k;exact Zd7 d q
 ·simp only[Va]at e;subst e;obtain⟨base,rfl,q⟩:=k;exact Zd7 d q
 ·simp only[Va]at e;subst e;have:v=.slice none 0 0:=k;subst this;exact Zd7 (ys:=[]) d (.inl rfl)
 ·simp only[Va]at e;subst e;obtain⟨base,cap,rfl,_⟩:=k;exact Zd7 (ys:=[]) d (.inl rfl)
 ·rename_i l n;split at e
  ·rename_i z' rs wr A;split at e
   ·rename_i G;simp only[Va]at e;subst e;obtain⟨base,cap,flat,rfl,_,h1,h2,h3,_⟩:=Zia (P:=P) D A G k;cases rs with
    |nil=>exact Zd7 (ys:=[]) d (.inl rfl)
    |cons row rs =>
     have B:z'=z:=by have H:=(h2 0 row rfl).1;have J:=Qw d 0 row rfl;omega
     subst B;exact⟨base,cap,flat,rfl,h1,h2,h3⟩
   simp at e
  simp at e
 ·rename_i l n a m;split at e
  ·rename_i z' rs wr A;split at e
   ·rename_i E;simp only[Va]at e;subst e;exact ZvN D A E.1 E.2 d k
   simp at e
  simp at e
 simp at e
theorem ZiG{t:TypeId}{xs:AV}(h0:at_[0]?=some t)(h1:at_[1]?=some u)(G:ZeB P u)(ab:es P t=some (z,b))
  (Q:Rel μ h w) (hx:Rep μ h w xs vx) (hy:ZvV P μ h w z ys vy) (e:Xv wq h z b xs ys=some (x,h')):Zk8 P μ h w (Builtin.append_ at_ ty #[vx,vy]) x h':=by
 obtain⟨el,i,y,hu,hi,rfl,rfl,hz,a2⟩:=Zb4 ab;obtain⟨fy,k,q,H,J⟩:=hy;have S:RowsN μ h (Xo w) i.size ys fy.toArray:=H.ext (drew_ext (μ:=μ) (h:=h) (w:=w));unfold Xv at e;split at e
 ·-- nil
  have:vx=.slice none 0 0:=hx;subst this;split at e
  ·rename_i A;simp only[Va,Vp]at e;obtain⟨rfl,rfl⟩:=e;cases ys with
   |nil =>
    have U:fy=[]:=VS.1 (by simpa using q);subst U;have d:=JN (P:=P) (base:=none) (w:=w) (ty:=ty) h0 h1 hu G hi k (J w rfl);refine⟨_,μ.set h.length none,w,d,Rel.push Q (.rows i.size [] wq) none (.inl ⟨Blank.nil,set_same _ _⟩),Ext.push Q (.rows i.size [] wq) none,?_⟩;exact⟨i.size,[],wq,none,0,by simp,Vw _,rfl,fun _=>⟨Vw _,fun _=>rfl,.inl rfl⟩⟩
   |cons y0 ys =>
    obtain⟨c,hc,d⟩:=ZaU (P:=P) (w:=w) (ty:=ty) (base:=none) (n:=0) (cap:=0) (old:=[]) h0 h1 hu G hi hz k (by simp) (by simpa using A) rfl (J _ rfl);refine ZmI (c:=c) (rest:=Builtin.zeroCells y.cells (c-(0+(y0::ys).length))) (T:=el) Q (by simp) q S (by omega) (by rw[WG,a2];simp) ?_;rw[d];simp
  simp at e
 ·rename_i rs;obtain⟨base,rfl,hb⟩:=hx;split at e
  ·rename_i W;obtain⟨a0,a7,A⟩:=W;simp only[Va,Vp]at e;obtain⟨rfl,rfl⟩:=e;obtain⟨a3,a8,fl,he,hl,O,hf⟩:=Zd7 (P:=P) (μ:=μ) (h:=h) (w:=w) (cap:=rs.length) a7 hb;simp only[SE,PW]at he;obtain⟨rfl,rfl⟩:=he;have X:RowsN μ h (Xo w) i.size rs fl.toArray:=O.ext (drew_ext (μ:=μ) (h:=h) (w:=w));obtain⟨c,hc,d⟩:=ZaU (P:=P) (w:=w) (ty:=ty) h0 h1 hu G hi hz k (by omega) A (hf _ rfl) (J _ rfl);have a1:=RowsN.append (rest:=[]) hl X S;rw[Vv]at a1;have:=ZmI (wr:=wq) (s:=Builtin.append_ at_ ty #[.slice base rs.length rs.length,vy]) (P:=P) (c:=c) (rs:=rs++ys) (flat:=fl++fy) (rest:=Builtin.zeroCells y.cells (c-(rs.length+ys.length))) (T:=el) Q (by simp;omega) (by simp[hl,q,Uj]) a1 (by simp;omega) (by rw[WG,a2];simp) (by
    rw[d];have:(fl++fy).toArray=fl.toArray++fy.toArray:=by apply UX;simp
    rw[this];simp)
   simpa using this
  split at e
  ·rename_i a4;subst a4;simp only[Va,Vp]at e;obtain⟨rfl,rfl⟩:=e;have U:fy=[]:=VS.1 (by simpa using q);subst U;exact⟨_,μ,w,ZnG (P:=P) (w:=w) (ty:=ty) h0 h1 hu G hi (Vw _) k (J w rfl),Q,Ext.refl _ _ _,base,rfl,hb⟩
  simp at e
 ·rename_i l n;split at e
  ·rename_i sz rs wr B;split at e
   ·rename_i W;obtain⟨hn,rfl,A⟩:=W;simp only[Va,Vp]at e;obtain⟨rfl,rfl⟩:=e;obtain⟨base,cap,fl,rfl,ag,hl,O,hf,hb⟩:=Zia (P:=P) Q B hn hx;subst hn;have X:RowsN μ h (Xo w) i.size rs fl.toArray:=O.ext (drew_ext (μ:=μ) (h:=h) (w:=w));by_cases D:rs.length+ys.length≤cap
    ·rcases hb with⟨rfl,rfl⟩|⟨b,vs,T,rfl,hm,⟨fz,Z,E⟩,L,ac⟩
     ·-- nothing yet,and nothing comes
      have a4:ys=[]:=VS.1 (by simp only[VI]at D;omega);subst a4;have U:fy=[]:=VS.1 (by simpa using q);subst U;have d:=JN (P:=P) (base:=base) (w:=w) (ty:=ty) h0 h1 hu G hi k (J w rfl);rw[Vv,W9 B];exact⟨_,μ,w,d,Q,Ext.refl _ _ _,hx⟩
     have d:=Zco (P:=P) (ty:=ty) h0 h1 hu G hi k D Z (by rcases E with rfl|E;exact UB _;exact E.2) L q (ZaV q H) (J w rfl);have a5:rs.length*i.size+fy.length≤vs.size:=by rw[q,←Uj];exact Uu (VT _ D) L
     have N:(vs.toList.take (rs.length*i.size)++fy++vs.toList.drop (rs.length*i.size+fy.length)).toArray.size=vs.size:=by simp;omega
     have ex:Ext μ h w μ (h.set l (.rows i.size (rs++ys) wr)) (w.setRow b (vs.toList.take (rs.length*i.size)++fy++vs.toList.drop (rs.length*i.size+fy.length)).toArray) :=
      Ext.update Q B hm Z (U8 w b _ _ T _ Z) (fun b2 a6=>Sb w b b2 _ a6) rfl rfl rfl (by simp) N
       (fun o v hv ad=>by
        have ho:o<rs.length*i.size:=by have:¬(i.size*rs.length≤o):=fun a5=>ad (.inr a5);rw[SD];omega
        simp only[VU];rw[JR _ _ _ _ (by simpa using a5),Vr ho];simpa using hv)
       (fun o ho=>by
        rcases ho with ho|ho
        ·exact .inl ho
        right;refine Uu ?_ ho;exact Py _ (by simp))
       ⟨rfl,by simp⟩
     refine⟨_,μ,_,d,Rel.update Q B hm (fun b2 a6=>Sb w b b2 _ a6) ex ?_,ex,?_⟩
     ·refine .inr ⟨b,_,T,hm,⟨fz,U8 w b _ _ T _ Z,E.imp id fun E=>⟨E.1,Uu E.2 (VT _ (by simp))⟩⟩,by rw[N];refine Uu ?_ L;exact VT _ (by simpa using D),?_⟩;have:=RowsN.append (rest:=vs.toList.drop (rs.length*i.size+fy.length)) hl O H;rw[ac]at this;exact this.ext ex
     exact⟨i.size,rs++ys,wr,_,cap,by rw[Vf (Vb.1 B).1],by simp,rfl,fun _=>⟨D,fun ah=>by obtain⟨z2,ai,aj,a3,a8,Y,_,a9,ae⟩:=hx;rw[B]at Y;simp only[Va,Blk.rows.injEq]at Y;obtain⟨rfl,rfl,rfl⟩:=Y;simp only[SE,PW]at a9;obtain⟨_,rfl⟩:=a9;exact(ae rfl).2.1 (by omega),.inr ⟨b,_,T,rfl,hm,⟨_,U8 w b _ _ T _ Z⟩,by rw[N];exact L⟩⟩⟩
    obtain⟨c,hc,d⟩:=ZaU (P:=P) (w:=w) (ty:=ty) h0 h1 hu G hi hz k (by omega) A (hf _ rfl) (J _ rfl);exact Zqa (c:=c) (rest:=Builtin.zeroCells y.cells (c-(rs.length+ys.length))) (T:=el) Q B (by omega) hl X q S hc (by rw[WG,a2]) d
   simp at e
  simp at e
 ·rename_i l n m;split at e
  ·rename_i sz rs B;split at e
   ·rename_i W;obtain⟨hn,rfl,a0,D⟩:=W;simp only[Va,Vp]at e;obtain⟨rfl,rfl⟩:=e;obtain⟨cap,b,vs,T,rfl,h5,h6,hm,⟨fz,Z,E⟩,af,L,O⟩:=Zaj Q B hn a0 hx;have aa:fz=(0,0):=by
     rcases E with h|⟨h,_⟩
     ·exact h
     simp at h
    subst aa;simp only[VZ]at h5 h6 L;have d:=Zco (P:=P) (ty:=ty) h0 h1 hu G hi k (by omega:m+ys.length≤cap) Z (UB _) L q (ZaV q H) (J w rfl);obtain⟨q0,q1,q2⟩:=Zgx Q B hm Z af O q H (by omega:m+ys.length≤rs.length);refine⟨_,μ,_,by rw[Ph];exact d,q1,q2,?_⟩;refine⟨i.size,_,true,_,cap,Vf (Vb.1 B).1,by simp;omega,rfl,fun _=>⟨by omega,by omega,fun _=>⟨b,_,T,by simp,hm,⟨_,U8 w b _ _ T _ Z⟩,by rw[q0];simpa using L⟩⟩⟩
   simp at e
  simp at e
 simp at e
theorem Zc3{n m:AV}{X Y:Value}{G:Za}(hn:Rep μ h w n X)(hm:Rep μ h w m Y)(e:Qk P t G n m=some (x,h')):
  ∃(z:Nat) (rs:List (List AV)) (arr:Array Value) (H:TypeId),x=.own G.length rs.length∧h'=G++[.rows z rs true]∧(Instr.makeSlice t X Y).run P w=.ok (.slice (some ⟨w.heap.size,0,none⟩) rs.length rs.length) (w.alloc (.cells arr H))∧arr.size=rs.length*z∧RowsIn (Mut μ h) w z rs arr:=by
 unfold Qk at e;split at e
 ·rename_i k k';have e1:X=.int .i64 k:=hn;have e2:Y=.int .i64 k':=hm;subst e1 e2;split at e
  ·rename_i Z;subst Z;split at e
   ·rename_i z b a0;split at e
    ·rename_i hc;obtain⟨a1,a2⟩:=hc;obtain⟨H,i,y,hu,hi,rfl,rfl,G,a3⟩:=Zb4 a0;unfold ZlE at e;split at e
     ·rename_i az D;split at e
      ·rename_i rs q;simp only[Va,Vp]at e;obtain⟨rfl,rfl⟩:=e;have J:az=JW y:=by unfold Jp at D;rw[hu]at D;simp only[zv,hi,G,Ue,Va]at D;exact D.symm
       subst J;unfold Zjd at q;split at q
       ·rename_i cs a4;split at q
        ·rename_i L;simp only[Va]at q;subst q;obtain⟨hs,hp⟩:=Zb1 (M:=Mut μ h) (w:=w) a4 (X9 y);obtain⟨j,rfl⟩:=UW a1;simp only[Vk];have N:j*(i.bytes+1)≤Zp:=by exact_mod_cast a2
         have hj:j≤j*(i.bytes+1):=Nat.le_mul_of_pos_right _ (by omega);have ac:j*i.bytes≤j*(i.bytes+1):=Py _ (by omega);have A:IntKind.i64.wrap (j:Int)=j:=by unfold Zp at N;exact IntWalk.i64_in _ (by omega)
         have ad:((i.bytes:Int)*(j:Int))≤35184372088832:=by
          have:((j*i.bytes:Nat):Int)≤35184372088832:=by unfold Zp at N;omega
          rw[Int.natCast_mul]at this;rw[Int.mul_comm];exact this
         let arr:Array Value:=(Array.range (j*i.size)).map (y.cells[· % y.cells.size]!);have a5:RowsIn (Mut μ h) w i.size (List.replicate j cs) arr:=fun r row d=>by
          rw[List.getElem?_replicate]at d;split at d
          ·rename_i a6;simp only[Va]at d;subst d;refine⟨L,hs,fun c a' ha=>?_⟩;obtain⟨v,h1,h2⟩:=hp.at c a' ha;refine⟨v,?_,h2⟩;have a7:c<i.size:=by rw[←L];exact(Vb.1 ha).1
           have a8:r*i.size+c<j*i.size:=by
            have:r*i.size+i.size≤j*i.size:=by rw[←Un];exact VT _ a6
            omega
           have O:(r*i.size+c)%y.cells.size=c:=by rw[a3,SD,Nat.mul_add_mod];exact Nat.mod_eq_of_lt a7
           have a9:y.cells[c]?=some v:=by simpa using h1
           simp only[arr,Array.getElem?_map,Array.getElem?_range,a8,V7,Ue,O];congr 1;rw[getElem!_def,a9]
          simp at d
         have Q:arr.size=j*i.size:=by simp[arr]
         refine⟨i.size,List.replicate j cs,arr,H,by rw[Uh],rfl,?_,by rw[Q,Uh],a5⟩;rw[Uh];have S:∀w:World,(typeInfo H).run P w=.ok i w:=fun w=>by simp[typeInfo,hi]
         have U:∀w:World,(sizeOf H).run P w=.ok i.size w:=fun w=>by simp[sizeOf,typeInfo,hi]
         have aa:∀w:World,(zeroValue H).run P w=.ok y w:=fun w=>by simp[zeroValue,typeInfo,hi,G]
         have B:¬(((((j:Int)<0||decide ((i.bytes:Int)*(j:Int)>2^48))||decide ((j:Int)<0))||decide ((j:Int)>j))=true):=by simp;omega
         by_cases E:j*i.size=0
         ·have W:arr=#[]:=SR (by rw[Q,E]);have ab:(Array.range 0 |>.map fun x=>(#[]:Array Value)[x%(#[]:Array Value).size]!)=#[]:=by simp
          rw[W];simp only[Instr.makeSlice,VQ,Vs hu,VF,asInt,asIntOf,pure_bind,V0,S,A,Se,Vm B,PV,Vk,U,E,V7,newRow,PS,ab];rfl
         simp only[Instr.makeSlice,VQ,Vs hu,VF,asInt,asIntOf,pure_bind,V0,S,A,Se,Vm B,PV,Vk,U,Vm E,aa,newRow,PS];rfl
        simp at q
       simp at q
      simp at e
     simp at e
    simp at e
   simp at e
  simp at e
 simp at e
theorem Zg6{n m:AV}{E G:Value}(H:Rel μ h w)(L:Rep μ h w n E)(N:Rep μ h w m G)(e:Qk P t h n m=some (x,h')):Zk8 P μ h w (Instr.makeSlice t E G) x h':=by
 obtain⟨z,rs,arr,k,rfl,rfl,q,A,B⟩:=Zc3 L N e;have J:=Ext.push H (.rows z rs true) (some (.cells arr k));have d:(w.alloc (.cells arr k)).heap[w.heap.size]?=some (.cells arr k (0,0)):=Xi _;refine⟨_,_,w.alloc (.cells arr k),q,Rel.push H (.rows z rs true) (some (.cells arr k)) ?_,J,?_⟩
 ·exact .inr ⟨w.heap.size,arr,k,set_same _ _,.free d,by simp[A],(B.keep J.keep).some⟩
 exact⟨z,rs,true,_,rs.length,by simp,by simp,rfl,fun _=>⟨Vw _,fun D=>D,.inr ⟨w.heap.size,arr,k,rfl,set_same _ _,⟨_,d⟩,by rw[A];exact Vw _⟩⟩⟩
theorem Zac(hs:(execOp a.eval o).run P w=(s.run P w).andThen fun v w'=>.ok (.value v) w')(d:Zk8 P μ h w s x h'):Wb P o a μ h w x h':=by intro next Q k;obtain⟨u,μ',w',h1,h2,h3,q⟩:=d;unfold Oper.wp;rw[hs,h1];exact k u μ' w' h2 h3 q
theorem ZfI{t e0:TypeId}(h0:at_[0]?=some t)(h1:at_[1]?=some u)(O:ZeB P u)(a5:es P t=some (z,b))(L:elT P t=some e0)
  (hr:Rel μ h w) (hx:TownRep μ h w e0 l n vx) (hy:ZvV P μ h w z ys vy) (e:Xv wq h z b (.own l n) ys=some (x,h')):∃m,x=.own l m∧Zk8 P μ h w (Builtin.append_ at_ ty #[vx,vy]) (.town e0 l m) h':=by
 obtain⟨el,i,y,hu,hi,rfl,rfl,hz,a6⟩:=Zb4 a5;have L:el=e0:=by simp only[elT,hu,Va]at L;exact L
 subst L;obtain⟨fy,B,G,H,Q⟩:=hy;have a0:RowsN μ h (Xo w) i.size ys fy.toArray:=H.ext (drew_ext (μ:=μ) (h:=h) (w:=w));simp only[Xv]at e;split at e
 ·rename_i sz rs wr k;split at e
  ·rename_i a7;obtain⟨hn,rfl,S⟩:=a7;simp only[Va,Vp]at e;obtain⟨rfl,rfl⟩:=e;refine⟨_,rfl,?_⟩;obtain⟨base,cap,fl,rfl,af,hl,a1,hf,hb⟩:=Zia (P:=P) hr k hn hx.own;subst hn;have a2:RowsN μ h (Xo w) i.size rs fl.toArray:=a1.ext (drew_ext (μ:=μ) (h:=h) (w:=w));by_cases q:rs.length+ys.length≤cap
   ·rcases hb with⟨rfl,rfl⟩|⟨b,vs,T,rfl,hm,⟨fz,hw,D⟩,N,a8⟩
    ·have a9:ys=[]:=VS.1 (by simp only[VI]at q;omega);subst a9;have aa:fy=[]:=VS.1 (by simpa using G);subst aa;have A:=JN (P:=P) (base:=base) (w:=w) (ty:=ty) h0 h1 hu O hi B (Q w rfl);rw[Vv,W9 k];exact⟨_,μ,w,A,hr,Ext.refl _ _ _,hx⟩
    have hT:T=el:=by
     obtain⟨z2,ab,ac,U,a3,d,_,J,W⟩:=hx;rw[k]at d;simp only[Va,Blk.rows.injEq]at d;obtain⟨rfl,rfl,rfl⟩:=d;obtain⟨_,_,ad⟩:=W rfl;simp only[SE,PW]at J;obtain⟨rfl,rfl⟩:=J;rcases ad with⟨hx,_⟩|⟨b3,ag,a4,_,⟨ah,X⟩,_⟩
     ·simp at hx
     simp only[Va,Addr.mk.injEq,PD]at a4;obtain rfl:=a4;rw[hw]at X;simp only[Va,SB]at X;exact X.2.1
    subst hT;have A:=Zco (P:=P) (ty:=ty) h0 h1 hu O hi B q hw (by rcases D with rfl|D;exact UB _;exact D.2) N G (ZaV G H) (Q w rfl);have Y:rs.length*i.size+fy.length≤vs.size:=by rw[G,←Uj];exact Uu (VT _ q) N
    have E:(vs.toList.take (rs.length*i.size)++fy++vs.toList.drop (rs.length*i.size+fy.length)).toArray.size=vs.size:=by simp;omega
    have ex:Ext μ h w μ (h.set l (.rows i.size (rs++ys) wr)) (w.setRow b (vs.toList.take (rs.length*i.size)++fy++vs.toList.drop (rs.length*i.size+fy.length)).toArray) :=
     Ext.update hr k hm hw (U8 w b _ _ T _ hw) (fun b2 Z=>Sb w b b2 _ Z) rfl rfl rfl (by simp) E
      (fun o v hv ae=>by
       have ho:o<rs.length*i.size:=by have:¬(i.size*rs.length≤o):=fun Y=>ae (.inr Y);rw[SD];omega
       simp only[VU];rw[JR _ _ _ _ (by simpa using Y),Vr ho];simpa using hv)
      (fun o ho=>by
       rcases ho with ho|ho
       ·exact .inl ho
       right;refine Uu ?_ ho;exact Py _ (by simp))
      ⟨rfl,by simp⟩
    refine⟨_,μ,_,A,Rel.update hr k hm (fun b2 Z=>Sb w b b2 _ Z) ex ?_,ex,?_⟩
    ·refine .inr ⟨b,_,T,hm,⟨fz,U8 w b _ _ T _ hw,D.imp id fun D=>⟨D.1,Uu D.2 (VT _ (by simp))⟩⟩,by rw[E];refine Uu ?_ N;exact VT _ (by simpa using q),?_⟩;have:=RowsN.append (rest:=vs.toList.drop (rs.length*i.size+fy.length)) hl a1 H;rw[a8]at this;exact this.ext ex
    exact⟨i.size,rs++ys,wr,_,cap,by rw[Vf (Vb.1 k).1],by simp,rfl,fun _=>⟨q,fun ai=>by obtain⟨z2,ab,ac,U,a3,d,_,J,W⟩:=hx;rw[k]at d;simp only[Va,Blk.rows.injEq]at d;obtain⟨rfl,rfl,rfl⟩:=d;simp only[SE,PW]at J;obtain⟨_,rfl⟩:=J;exact(W rfl).2.1 (by omega),.inr ⟨b,_,rfl,hm,⟨_,U8 w b _ _ T _ hw⟩,by rw[E];exact N⟩⟩⟩
   obtain⟨c,hc,A⟩:=ZaU (P:=P) (w:=w) (ty:=ty) h0 h1 hu O hi hz B (by omega) S (hf _ rfl) (Q _ rfl);exact Zod (c:=c) (rest:=Builtin.zeroCells y.cells (c-(rs.length+ys.length))) (T:=el) hr k (by omega) hl a2 G a0 hc (by rw[WG,a6]) A
  simp at e
 simp at e
theorem ZdB{t:TypeId}{xs:AV}(B:at_[0]?=some t)(h1:at_[1]?=some u)(d:ZeB P u)(k:es P t=some (z,b))
  (D:Rel μ h w) (E:Rep μ h w xs vx) (G:ZvV P μ h w z ys vy) (e:Jf (elT P t) wq h z b ys xs=some (x,h')):Zk8 P μ h w (Builtin.append_ at_ ty #[vx,vy]) x h':=by
 unfold Jf at e;split at e
 ·rename_i L l n;split at e
  ·rename_i q;cases A:Xv wq h z b (.own l n) ys with
   |none=>simp[A,tyO]at e
   |some p =>
    obtain⟨N,H⟩:=p;obtain⟨m,rfl,J⟩:=ZfI (ty:=ty) B h1 d k q D E G A;simp only[A,tyO,Va,Vp]at e;obtain⟨rfl,rfl⟩:=e;exact J
  simp at e
 exact ZiG (ty:=ty) B h1 d k D E G e
theorem Zn4{ev:Operand→AV}(J:Rel μ h w)(he:XF μ h w ev a.eval)(U:o.op=.call c)(W:c.callee=.builtin .append)
  (e:Zev P wq c.argTypes[0]? c.argTypes[1]? h (evs ev c.args.toList)=some (x,h')):Wb P o a μ h w x h':=by
 have k:=Jh he c.args.toList;have A:c.args.map a.eval=(c.args.toList.map a.eval).toArray:=by apply UX;simp
 unfold Zev at e;split at e
 ·rename_i xs ys L;rw[L]at k;obtain⟨v,vr,X,Y,v2,N,O,H,G⟩:=k;have B:N=[]:=G;subst B O;split at e
  ·rename_i t u Z hu;split at e
   ·rename_i z0 b0 d;split at e
    ·rename_i z b q;split at e
     ·rename_i rs Q;split at e
      ·rename_i S;have D:ZeB P u:=by
        unfold tk at d;split at d
        ·simp at d
        ·rename_i e' E;exact .inl ⟨e',E⟩
        ·split at d<;>simp at d
        simp at d
       refine Zac ?_ (ZdB (ty:=o.type) Z hu D q J Y (Zpa J Q S H).two e);rw[WN U W];simp only[pure_bind,invoke,builtin,VQ,A,X];rfl
      simp at e
     simp at e
    simp at e
   ·rename_i d;split at e
    ·rename_i z b q;unfold Zhn at e;split at e
     ·rename_i s;split at e
      ·rename_i hz;subst hz;have D:ZeB P u:=by
        unfold tk at d;split at d
        ·rename_i E;exact .inr E
        ·split at d<;>simp at d
        ·split at d<;>simp at d
        simp at d
       have H:v2=.string ⟨s.toArray⟩:=H;subst H;refine Zac ?_ (ZdB (ty:=o.type) Z hu D q J Y Zx8 e);rw[WN U W];simp only[pure_bind,invoke,builtin,VQ,A,X];rfl
      simp at e
     simp at e
    simp at e
   ·split at e
    ·rename_i z b q;split at e
     ·rename_i a0;cases e
     simp at e
    simp at e
   simp at e
  simp at e
 simp at e
theorem ZpW{ev:Operand→AV}(H:Rel μ h w)(J:XF μ h w ev a.eval)(L:o.op=.call c)(N:c.callee=.builtin .clear)(e:Zaz (Zi2 P c.argTypes[0]? h (evs ev c.args.toList))=some (x,h')):Wb P o a μ h w x h':=by
 have k:=Jh J c.args.toList;have A:c.args.map a.eval=(c.args.toList.map a.eval).toArray:=by apply UX;simp
 unfold Zaz at e;split at e
 ·rename_i h1 d;simp only[Va,Vp]at e;obtain⟨rfl,rfl⟩:=e;unfold Zi2 at d;split at d
  ·rename_i y O;rw[O]at k;obtain⟨v,Q,S,U,B⟩:=k;have q:Q=[]:=B;subst q;split at d
   ·rename_i t W;split at d
    ·rename_i z b az D E;split at d
     ·rename_i zr G;obtain⟨w',X,Y,Z⟩:=Zmu (ty:=o.type) W D E G H d U;refine Zac (s:=Builtin.clear_ c.argTypes o.type #[v]) ?_ ⟨_,_,_,X,Y,Z,trivial⟩
      ·rw[WN L N];simp only[pure_bind,invoke,builtin,VQ,A,S];rfl
     simp at d
    simp at d
   simp at d
  simp at d
 simp at e
theorem ZhW{a b:TypeId}{x:AV}(d:Rel μ h w)(e:ZcR h (Zcl P a b) y=some x)(k:Rep μ h w y v):Quiet P μ h w (convert a b v) x:=by exact ZdM d e k
theorem Zmd{y:Operand}{ev:Operand→AV}(k:Rel μ h w)(q:XF μ h w ev a.eval)(A:o.op=.convert t u y)(e:val h (ZcR h (Zcl P t u) (ev y))=some (x,h')):Wb P o a μ h w x h':=by
 cases d:ZcR h (Zcl P t u) (ev y)with
 |none=>simp[d,val]at e
 |some z =>
  simp only[d,val,Va,Vp]at e;obtain⟨rfl,rfl⟩:=e;exact ZbG (by simp only[execOp,A]) (ZhW k d (q y))
theorem ZtO{ev:Operand→AV}(d:Rel μ h w)(k:XF μ h w ev a.eval)(q:o.op=.call c)(A:c.callee=.builtin .cap)(e:val h (ZC4 h (tk? P c.argTypes[0]?) (evs ev c.args.toList))=some (x,h')):Wb P o a μ h w x h':=by cases e
theorem ZrM{ev:Operand→AV}(d:Rel μ h w)(k:XF μ h w ev a.eval)(q:o.op=.call c)(A:c.callee=.builtin .copy)(e:Zz8 P c.argTypes[0]? h (evs ev c.args.toList)=some (x,h')):Wb P o a μ h w x h':=by cases e
theorem Zi3{n m:Operand}{ev:Operand→AV}(k:Rel μ h w)(d:XF μ h w ev a.eval)(q:o.op=.makeSlice t n m)(e:Qk P t h (ev n) (ev m)=some (x,h')):Wb P o a μ h w x h':=by refine Zac ?_ (Zg6 (P:=P) (t:=t) k (d n) (d m) e);simp only[execOp,q,VQ];rfl
theorem ZtW{y:Operand}{ev:Operand→AV}(d:Rel μ h w)(k:XF μ h w ev a.eval)(q:o.op=.box t y)(e:Go.Ab.alloc h (some (ev y))=some (x,h')):Wb P o a μ h w x h':=by refine Zim (t:=t) d e (k y) ?_;simp only[execOp,q,Instr.box,VQ,ZaK,VF,V0]
theorem Ztd(k:Rel μ h w)(q:o.op=.alloc t)(e:Go.Ab.alloc h (zv P t)=some (x,h')):Wb P o a μ h w x h':=by
 cases d:zv P t with
 |none=>simp[d,Go.Ab.alloc]at e
 |some y =>
  rw[d]at e;obtain⟨i,z,h1,h2,rfl,A⟩:=ZeW (w:=w) d;refine Zim (t:=t) (v:=z) k e (Rep.pure _ _ (X9 z)) ?_;simp only[execOp,q,Instr.alloc,VQ,A,ZaK,VF,V0]
theorem Zsf(k:Rel μ h w)(q:o.op=.alloc t)(e:tyP t (Go.Ab.alloc h (zv P t))=some (x,h')):Wb P o a μ h w x h':=by
 cases d:zv P t with
 |none=>simp[d,Go.Ab.alloc,tyP]at e
 |some y =>
  rw[d]at e;obtain⟨i,z,h1,h2,rfl,A⟩:=ZeW (w:=w) d;refine ZoE (t:=t) (v:=z) k e (Rep.pure _ _ (X9 z)) ?_;simp only[execOp,q,Instr.alloc,VQ,A,ZaK,VF,V0]
theorem Zmz{b:Bool}(d:Rel μ h w)(k:o.op=.alloc t)(e:ZiT b t (Go.Ab.alloc h (zv P t))=some (x,h')):Wb P o a μ h w x h':=by
 cases b with
 |true=>exact Zsf d k e
 |false=>exact Ztd d k e
end
section
variable{Bs:World→Prop}
variable{P:Program}{μ:Mp Bs}{h h':Za}{w:World}{a:Act}{o:Oper}{x:AV}
theorem Zki:∀{n:Nat} {l:List AV},Jn n l=true→Zg l=[]
 |0,[],_=>rfl
 |0,_::_,h| n+1,[],h=>by simp[Jn]at h
 |n+1,a::l,h=>by
  cases a with
  |int k x =>
   cases k with
   |i64=>simp only[Jn]at h;simp[Zg,locs,Zki h]
   |_=>simp[Jn]at h
  |_=>simp[Jn]at h
theorem Zsx{k:AV}(d:ZgG kk k=true):Zf2 kk k=true:=by
 unfold ZgG at d;split at d
 ·rfl
 ·rfl
 ·exact d
 simp at d
theorem Zpw{k:AV}(d:ZgG kk k=true)(r:Rep μ h w k vk):PRep (Mut μ h) w k vk:=by
 unfold ZgG at d;split at d
 ·exact r
 ·exact r
 ·exact Rep.none _ _ (Zki d) r
 simp at d
theorem ZnO{m k v:Operand}{ev:Operand→AV}(Y:Rel μ h w)(E:XF μ h w ev a.eval)(S:o.op=.mapUpdate t m k v∨o.op=.insert t m k v)(e:Zeo P t h (ev m) (ev k) (ev v)=some h'):Wb P o a μ h w .any h':=by
 have hs:execOp a.eval o=(do Instr.mapUpdate t (a.eval m) (a.eval k) (a.eval v);pure .skip):=by rcases S with S|S<;>simp only[execOp,S]
 unfold Zeo at e;split at e
 ·rename_i l hx;split at e
  ·rename_i kk el es Z hl;split at e
   ·rename_i A;split at e
    ·rename_i v' r hv U;simp only[Va]at e;subst e;obtain⟨kt,hu,G⟩:=Zrn Z;have hm:=E m;rw[hx]at hm;obtain⟨a9,b,h1,h2,H⟩:=hm;have B:=Zpw A (E k);have J:=XQ Y _ _ _ hv (E v);obtain⟨b',ms,c,h3,W,h5⟩:=Y.blk l _ hl;have a0:b'=b:=by rw[h2]at h3;simpa using h3.symm
     subst a0;have hg:(getObj b').run P w=.ok (.map ms.toArray c) w:=by simp[getObj,Sem.run,W]
     have L:=fun b=>Zfb G (Zsx A) (E k) b;obtain⟨r',h6,h7⟩:=Zcx G (E k) h5 U;have q:∀X:Obj,(setObj b' X).run P w=.ok () {w with heap:=w.heap.setIfInBounds b' X}:=fun X=>MapKept.run_setObj_map X W;have N:∀(d:List MapEntry) (O:Nat),EntSet (Mut μ h) w (Zgn es (ev k) v' r) d →
       (Instr.mapUpdate t (a.eval m) (a.eval k) (a.eval v)).run P w=.ok () {w with heap:=w.heap.setIfInBounds b' (.map d.toArray O)}→Wb P o a μ h w .any (h.set l (.map (Zgn es (ev k) v' r))):=by
      intro d O hE Q;have D:(execOp a.eval o).run P w=.ok .skip {w with heap:=w.heap.setIfInBounds b' (.map d.toArray O)}:=by rw[hs];simp[Q]
      have a1:b'<w.heap.size:=ZbW W;have ex:Ext μ h w μ (h.set l (.map (Zgn es (ev k) v' r))) {w with heap:=w.heap.setIfInBounds b' (.map d.toArray O)}:=Ext.putMap hl h3 W;refine Zf0 D (Rel.update Y hl h3 (fun b2 a2=>?_) ex ?_) ex
      ·exact UO (fun e=>a2 e.symm)
      exact⟨b',d,O,h3,by simp[a1],hE.keep ex.keep⟩
     cases r with
     |none =>
      have:r'=none:=h7;subst this;have hE:EntSet (Mut μ h) w (Zgn es (ev k) v' none) (ms++[({key:=a.eval k,val:=a.eval v,born:=c}:MapEntry)]):=EntSet.ins h5 U B J .i64;refine N _ (c+1) hE ?_;simp only[Instr.mapUpdate,H,VQ,Vs hu,VF,L,hg,h6,q];simp
     |some p =>
      obtain⟨i,y⟩:=p;obtain⟨j,me,h8,rfl,_,h9,_,d,a3,a4,a5⟩:=h7;have a6:∀n,kk≠.arr n:=fun n hn=>by subst hn;obtain⟨_,k',aa,hq⟩:=Zdi es 0 U;simp[Zao]at hq
      refine N (ms.modify j fun e=>{e with key:=a.eval k,val:=a.eval v}) c (EntSet.put h5 U B J a3 a4 h8 a5) ?_;have a7:ms.toArray[j]?=some me:=by simpa using h8
      have a8:(Instr.keyThatStays me.key (a.eval k)).run P w=.ok (a.eval k) w:=by rw[h9];exact Zl8 A a6 B
      simp only[Instr.mapUpdate,H,VQ,Vs hu,VF,L,hg,h6,a7,Ue,VP,a8,q];simp
    simp at e
   simp at e
  simp at e
 simp at e
theorem ZlH(k:Rel μ h w)(q:o.op=.makeMap t none):Wb P o a μ h w (.mp h.length) (h++[.map []]):=by
 intro next Q A;have d:(execOp a.eval o).run P w=.ok (.value (.map (some w.heap.size))) (w.alloc (.map #[] 0)):=by simp only[execOp,q,Instr.makeMap];rfl
 unfold Oper.wp;rw[d];have B:=Ext.push k (.map []) (some (.map #[] 0));refine A _ (μ.set h.length (some w.heap.size)) (w.alloc (.map #[] 0)) (Rel.push k (.map []) (some (.map #[] 0)) ?_) B ?_
 ·exact⟨w.heap.size,[],0,set_same _ _,Xi _,EntSet.empty⟩
 exact⟨[],w.heap.size,by simp,set_same _ _,rfl⟩
theorem Ext.fillHole(J:Rel μ h w)(D:h[l]?=some .hole)(k:Blk)(y:Obj):Ext μ h w (μ.set l (some w.heap.size)) (h.set l k) (w.alloc y) where
 out:=rfl
 still:=rfl
 os:=rfl
 tape:=rfl
 output:=rfl
 size:=by simp
 len:=by simp
 keep:=fun b o v E H=>by
  have G:=ZeY E;refine⟨?_,?_⟩
  ·simp only[World.cell?]at E ⊢;rw[Xr _ G];exact E
  rintro(A|⟨l',k',d,hm',A⟩)
  ·exact H (.inl A)
  by_cases q:l=l'
  ·subst q;rw[set_same]at hm';simp at hm';omega
  rw[Zm _ (fun e=>q e.symm)]at hm';rw[Vc q]at d;exact H (.inr ⟨l',k',d,hm',A⟩)
 outside:=fun b B A=>by
  refine⟨Xr _ B,fun l' d=>?_⟩;by_cases q:l=l'
  ·subst q;rw[set_same];simp;omega
  rw[Zm _ (fun e=>q e.symm)];exact A l' (by simpa using d)
 cells:=fun l' cs d=>by
  have q:l≠l':=fun e=>by subst e;rw[D]at d;simp at d
  exact⟨⟨cs,by rw[Vc q];exact d⟩,Zm _ (fun e=>q e.symm)⟩
 rows:=fun l' z rs wr d=>by
  have q:l≠l':=fun e=>by subst e;rw[D]at d;simp at d
  exact⟨rs,wr,by rw[Vc q];exact d,Vw _,fun _=>Zm _ (fun e=>q e.symm)⟩
 maps:=fun l' es d=>by
  have q:l≠l':=fun e=>by subst e;rw[D]at d;simp at d
  exact⟨⟨es,by rw[Vc q];exact d⟩,Zm _ (fun e=>q e.symm)⟩
 sizes:=fun b vs T B=>⟨vs,B.eq (Xr _ B.lt),rfl⟩
theorem Rel.fillHole{l:Nat}{k:Blk}{y:Obj}(A:Rel μ h w)(L:h[l]?=some .hole)(Y:Zed (μ.set l (some w.heap.size)) (h.set l k) (w.alloc y) l k):Rel (μ.set l (some w.heap.size)) (h.set l k) (w.alloc y) where
 inj:=fun W X b H J B D=>by
  simp only[Vq]at H J;by_cases h1:W=l<;>by_cases h2:X=l
  ·omega
  ·subst h1;rw[set_same]at B;rw[Zm _ h2]at D;have:=A.mapped J D;simp at B;omega
  ·subst h2;rw[set_same]at D;rw[Zm _ h1]at B;have:=A.mapped H B;simp at D;omega
  rw[Zm _ h1]at B;rw[Zm _ h2]at D;exact A.inj W X b H J B D
 blk:=fun l' k' d=>by
  have S:l<h.length:=(Vb.1 L).1;have e:=Ext.fillHole A L k y;by_cases h1:l=l'
  ·subst h1;rw[Vf S]at d;simp only[Va]at d;subst d;exact Y
  rw[Vc h1]at d;have E:l'≠l:=fun e=>h1 e.symm;have q:∀b,b<w.heap.size→(w.alloc y).heap[b]?=w.heap[b]?:=fun b Z=>Xr _ Z;have:=A.blk l' k' d;cases k' with
  |cells cs =>
   obtain⟨b,vs,T,h3,G,N,U⟩:=this;exact⟨b,vs,T,by rw[Zm _ E];exact h3,by rw[q b (ZbW G)];exact G,N,RepL.ext e cs vs U⟩
  |rows z rs wr =>
   rcases this with⟨h3,G⟩|⟨b,vs,T,h3,G,N,U⟩
   ·exact .inl ⟨h3,by rw[Zm _ E];exact G⟩
   exact .inr ⟨b,vs,T,by rw[Zm _ E];exact h3,G.eq (q b G.lt),N,U.ext e⟩
  |hole =>
   show(μ.set l (some w.heap.size)) l'=none;rw[Zm _ E];exact this
  |map es =>
   obtain⟨b,ms,c,h3,G,N⟩:=this;exact⟨b,ms,c,by rw[Zm _ E];exact h3,by rw[q b (ZbW G)];exact G,N.keep e.keep⟩
 apart:=fun l' b o d O Q=>by
  by_cases h1:l'=l
  ·subst h1;rw[set_same]at O;have:=A.old b o Q;simp at O;omega
  rw[Zm _ h1]at O;exact A.apart l' b o (by simpa using d) O Q
 old:=fun b o Q=>Ur (A.old b o Q) (Ext.fillHole A L k y).size
 still:=(A.carry (Ext.fillHole A L k y)).1
 base:=(A.carry (Ext.fillHole A L k y)).2
theorem Zj2(D:Rel μ h w)(e:fill h l (some y)=some (x,h'))(G:Rep μ h w y v)
  (d:(execOp a.eval o).run P w=.ok (.value (.pointer (some ⟨w.heap.size,0,none⟩))) (w.alloc (.cells v.cells t))):Wb P o a μ h w x h':=by
 simp only[fill]at e;split at e
 ·rename_i cs k q;simp only[Va,Vp]at e;obtain⟨rfl,rfl⟩:=e;obtain⟨hs,A⟩:=XX k G;intro next Q H;unfold Oper.wp;rw[d];have B:l<h.length:=(Vb.1 q).1;have E:=Ext.fillHole D q (.cells cs) (.cells v.cells t);refine H _ (μ.set l (some w.heap.size)) (w.alloc (.cells v.cells t)) (Rel.fillHole D q ?_) E ?_
  ·exact⟨w.heap.size,v.cells.toList,t,set_same _ _,by rw[S2];exact Xi _,hs,RepL.ext E cs _ A⟩
  exact⟨cs,w.heap.size,by simp[B],set_same _ _,rfl⟩
 simp at e
theorem ZpS{ev:Operand→AV}(E:Rel μ h w)(J:XF μ h w ev a.eval)(e:ZcK C ev h l o.op=some (x,h')):Wb C.P o a μ h w x h':=by
 unfold ZcK at e;split at e
 ·rename_i t A;cases L:zv C.P t with
  |none=>rw[L]at e;simp[fill]at e
  |some y =>
   rw[L]at e;obtain⟨i,z,_,_,h3,W⟩:=ZeW (w:=w) L;refine Zj2 (t:=t) (v:=z) E e (by rw[h3];exact Rep.pure _ _ (X9 z)) ?_;simp only[execOp,A,Instr.alloc,VQ,W,ZaK,VF,V0]
 ·rename_i t y A;refine Zj2 (t:=t) (v:=a.eval y) E e (J y) ?_;simp only[execOp,A,Instr.box,VQ,ZaK,VF,V0]
 ·rename_i t A;unfold Zmv at e;split at e
  ·rename_i B;simp only[Va,Vp]at e;obtain⟨rfl,rfl⟩:=e;intro next Q X;have d:(execOp a.eval o).run C.P w=.ok (.value (.map (some w.heap.size))) (w.alloc (.map #[] 0)):=by simp only[execOp,A,Instr.makeMap];rfl
   unfold Oper.wp;rw[d];have D:l<h.length:=(Vb.1 B).1;have Y:=Ext.fillHole E B (.map []) (.map #[] 0);refine X _ (μ.set l (some w.heap.size)) (w.alloc (.map #[] 0)) (Rel.fillHole E B ?_) Y ?_
   ·exact⟨w.heap.size,[],0,set_same _ _,Xi _,EntSet.empty⟩
   exact⟨[],w.heap.size,by simp[D],set_same _ _,rfl⟩
  simp at e
 ·rename_i t n m A;unfold Znq at e;split at e
  ·rename_i Z k b N;split at e
   ·rename_i B;simp only[Va,Vp]at e;obtain⟨rfl,rfl⟩:=e;obtain⟨z,rs,arr,G,h1,h2,d,H,O⟩:=Zc3 (J n) (J m) N;simp only[VI,AV.own.injEq,Vi,Su,PD]at h1 h2;obtain⟨_,rfl⟩:=h1;subst h2;have D:l<h.length:=(Vb.1 B).1;have U:=Ext.fillHole E B (.rows z rs true) (.cells arr G);have q:(w.alloc (.cells arr G)).heap[w.heap.size]?=some (.cells arr G (0,0)):=Xi _;refine Zac (s:=Instr.makeSlice t (a.eval n) (a.eval m)) ?_ ⟨_,μ.set l (some w.heap.size),w.alloc (.cells arr G),d,Rel.fillHole E B ?_,U,?_⟩
    ·simp only[execOp,A,VQ];rfl
    ·exact .inr ⟨w.heap.size,arr,G,set_same _ _,.free q,by simp[H],(O.keep U.keep).some⟩
    exact⟨z,rs,true,_,rs.length,by simp[D],by simp,rfl,fun _=>⟨Vw _,fun S=>S,.inr ⟨w.heap.size,arr,G,rfl,set_same _ _,⟨_,q⟩,by rw[H];exact Vw _⟩⟩⟩
   simp at e
  simp at e
 simp at e
end
section
variable{Bs:World→Prop}
variable{μ μ':Mp Bs}{h h':Za}{w:World}{σ:Nat→Nat}
theorem Zrk(σ:Nat→Nat):∀(rs:List (List AV)) (i:Nat),(XN σ rs)[i]?=rs[i]?.map (Xl σ)
 |[],i| r::rs,0=>by simp[XN]
 |r::rs,i+1=>by simp only[XN,VJ];exact Zrk σ rs i
theorem YC(σ:Nat→Nat):∀rs:List (List AV),(XN σ rs).length=rs.length
 |[]=>rfl
 |r::rs=>by simp[XN,YC σ rs]
theorem Blank.ren(σ:Nat→Nat):∀{rs:List (List AV)},Blank rs→Blank (XN σ rs)
 |[],_=>Blank.nil
 |r::rs,b=>fun row d=>by
  simp only[XN,Vn]at d;rcases d with rfl|d
  ·rw[b r (by simp)];rfl
  exact Blank.ren σ (rs:=rs) (fun row h=>b row (VD _ h)) row d
theorem Zqo(σ:Nat→Nat):∀(l:List AV) (i:Nat),(Xl σ l)[i]?=l[i]?.map (ren σ)
 |[],i| a::l,0=>by simp[Xl]
 |a::l,i+1=>by simp only[Xl,VJ];exact Zqo σ l i
theorem Zg0(σ:Nat→Nat):∀l:List AV,(Xl σ l).length=l.length
 |[]=>rfl
 |a::l=>by simp[Xl,Zg0 σ l]
theorem Zhw:∀{l:List AV} {a:AV} {i:Nat},a∈l→i∈locs a→i∈Zg l
 |b::l,a,i,d,hi=>by
  show i∈locs b++Zg l;rcases Vn.1 d with rfl|d
  ·exact SF _ hi
  exact Sj _ (Zhw d hi)
theorem ZiD:∀{rs:List (List AV)} {row:List AV} {i:Nat},row∈rs→i∈Zg row→i∈Zz rs
 |b::l,a,i,d,hi=>by
  show i∈Zg b++Zz l;rcases Vn.1 d with rfl|d
  ·exact SF _ hi
  exact Sj _ (ZiD d hi)
def Wk(μ:Mp Bs)(h:Za)(μ':Mp Bs)(h':Za)(σ:Nat→Nat)(l:Nat):Prop :=
 ∀k,h[l]?=some k→h'[σ l]?=some (YY σ k)∧μ' (σ l)=μ l
theorem OwnRep.ren(k:Wk μ h μ' h' σ l)(r:OwnRep μ h w l n v):OwnRep μ' h' w (σ l) n v:=by
 obtain⟨z,rs,wr,base,cap,q,A,hs,B⟩:=r;obtain⟨h1,h2⟩:=k _ q;refine⟨z,XN σ rs,wr,base,cap,h1,by rw[YC];exact A,hs,fun e=>?_⟩;rw[YC]at e;obtain⟨h3,D,d⟩:=B e;refine⟨h3,D,?_⟩;rcases d with d|⟨b,vs,T,E,G,H,J⟩
 ·exact .inl d
 exact .inr ⟨b,vs,T,E,h2.trans G,H,J⟩
theorem TownRep.ren{t:Nat}(k:Wk μ h μ' h' σ l)(r:TownRep μ h w t l n v):TownRep μ' h' w t (σ l) n v:=by
 obtain⟨z,rs,wr,base,cap,q,A,hs,B⟩:=r;obtain⟨h1,h2⟩:=k _ q;refine⟨z,XN σ rs,wr,base,cap,h1,by rw[YC];exact A,hs,fun e=>?_⟩;rw[YC]at e;obtain⟨h3,D,d⟩:=B e;refine⟨h3,D,?_⟩;rcases d with d|⟨b,vs,E,G,H,J⟩
 ·exact .inl d
 exact .inr ⟨b,vs,E,h2.trans G,H,J⟩
theorem VwRep.ren{a:Nat}(d:Wk μ h μ' h' σ l)(r:VwRep μ h w l n a m v):VwRep μ' h' w (σ l) n a m v:=by obtain⟨z,rs,wr,base,cap,k,q,hs,A⟩:=r;obtain⟨h1,h2⟩:=d _ k;refine⟨z,XN σ rs,wr,base,cap,h1,by rw[YC];exact q,hs,fun e=>?_⟩;rw[YC]at e;obtain⟨h3,B,D⟩:=A e;refine⟨h3,B,fun E=>?_⟩;obtain⟨b,vs,T,G,H,J,L⟩:=D E;exact⟨b,vs,T,G,h2.trans H,J,L⟩
theorem TptrRep.ren{t:Nat}(d:Wk μ h μ' h' σ l)(r:TptrRep μ h w t l o v):TptrRep μ' h' w t (σ l) o v:=by obtain⟨cs,b,k,q,A⟩:=r;obtain⟨h1,h2⟩:=d _ k;exact⟨Xl σ cs,b,h1,h2.trans q,A⟩
theorem OptrRep.ren(d:Wk μ h μ' h' σ l)(r:OptrRep μ h l n i o v):OptrRep μ' h' (σ l) n i o v:=by obtain⟨z,rs,wr,b,k,q,hs,A⟩:=r;obtain⟨h1,h2⟩:=d _ k;exact⟨z,XN σ rs,wr,b,h1,by rw[YC];exact q,hs,fun e=>h2.trans (A (by rw[YC]at e;exact e))⟩
theorem MpRep.ren(d:Wk μ h μ' h' σ l)(r:MpRep μ h l v):MpRep μ' h' (σ l) v:=by obtain⟨es,b,k,q,A⟩:=r;obtain⟨h1,h2⟩:=d _ k;exact⟨es,b,h1,h2.trans q,A⟩
theorem PtrRep.ren(d:Wk μ h μ' h' σ l)(r:PtrRep μ h l o v):PtrRep μ' h' (σ l) o v:=by obtain⟨cs,b,k,q,A⟩:=r;obtain⟨h1,h2⟩:=d _ k;exact⟨Xl σ cs,b,h1,h2.trans q,A⟩
mutual
theorem Rep.ren(q:∀b o,Mut μ' h' b o→Mut μ h b o):∀(a:AV) (v:Value),(∀l,l∈locs a→Wk μ h μ' h' σ l)→Rep μ h w a v→Rep μ' h' w (Go.Ab.ren σ a) v
 |.agg cs,_,d,r=>by obtain⟨vs,k,r⟩:=r;exact⟨vs,k,RepL.ren q cs vs d r⟩
 |.tup cs,_,d,r=>by obtain⟨vs,k,r⟩:=r;exact⟨vs,k,RepL.ren q cs vs d r⟩
 |.fn _ cs,_,d,r=>by obtain⟨vs,k,r⟩:=r;exact⟨vs,k,RepL.ren q cs vs d r⟩
 |.bnd _ cs,_,d,r=>by obtain⟨vs,k,r⟩:=r;exact⟨vs,k,RepL.ren q cs vs d r⟩
 |.iface _ a,_,d,r=>by obtain⟨x,k,r⟩:=r;exact⟨x,k,Rep.ren q a x d r⟩
 |.ptr l _,_,d,r=>PtrRep.ren (d l (by simp[locs])) r
 |.own l _,_,d,r=>OwnRep.ren (d l (by simp[locs])) r
 |.optr l _ _ _,_,d,r=>OptrRep.ren (d l (by simp[locs])) r
 |.mp l,_,d,r=>MpRep.ren (d l (by simp[locs])) r
 |.tptr _ l _,_,d,r=>TptrRep.ren (d l (by simp[locs])) r
 |.town _ l _,_,d,r=>TownRep.ren (d l (by simp[locs])) r
 |.vw l _ _ _,_,d,r=>VwRep.ren (d l (by simp[locs])) r
 |.int _ _,_,_,r| .bool _,_,_,r| .str _,_,_,r| .nilp,_,_,r| .nilf,_,_,r| .nili,_,_,r| .emp _,_,_,r| .nilm,_,_,r| .nils,_,_,r=>r
 |.rows rs,v,_,r=>PRep.keep (fun b o v A B=>⟨A,fun D=>B (q b o D)⟩) (.rows rs) v r
 |.lit rs,v,_,r=>PRep.keep (fun b o v A B=>⟨A,fun D=>B (q b o D)⟩) (.lit rs) v r
 |.rptr row o,v,_,r=>PRep.keep (fun b o v A B=>⟨A,fun D=>B (q b o D)⟩) (.rptr row o) v r
 |.any,_,_,r=>r
theorem RepL.ren(k:∀b o,Mut μ' h' b o→Mut μ h b o):∀(l:List AV) (vs:List Value),(∀i,i∈Zg l→Wk μ h μ' h' σ i)→RepL μ h w l vs→RepL μ' h' w (Xl σ l) vs
 |[],_,_,r=>r
 |a::r,_,q,x=>by obtain⟨v,A,B,h1,h2⟩:=x;exact⟨v,A,B,Rep.ren k a v (fun l d=>q l (by simp[Zg,d])) h1,RepL.ren k r A (fun l d=>q l (by simp[Zg,d])) h2⟩
end
mutual
/-- Places of a value are places of the memory. -/
theorem Rep.locs_lt:∀(a:AV) (v:Value),Rep μ h w a v→∀l,l∈locs a→l<h.length
 |.agg cs,_,r,l,d=>by obtain⟨vs,k,r⟩:=r;exact RepL.locs_lt cs vs r l d
 |.tup cs,_,r,l,d=>by obtain⟨vs,k,r⟩:=r;exact RepL.locs_lt cs vs r l d
 |.fn _ cs,_,r,l,d=>by obtain⟨vs,k,r⟩:=r;exact RepL.locs_lt cs vs r l d
 |.bnd _ cs,_,r,l,d=>by obtain⟨vs,k,r⟩:=r;exact RepL.locs_lt cs vs r l d
 |.iface _ a,_,r,l,d=>by obtain⟨x,k,r⟩:=r;exact Rep.locs_lt a x r l d
 |.ptr _ _,_,r,l,d=>by obtain⟨cs,b,h1,_⟩:=r;simp only[locs,VH]at d;subst d;exact(Vb.1 h1).1
 |.own _ _,_,r,l,d=>by obtain⟨_,_,_,_,_,h1,_⟩:=r;simp only[locs,VH]at d;subst d;exact(Vb.1 h1).1
 |.optr _ _ _ _,_,r,l,d=>by obtain⟨_,_,_,_,h1,_⟩:=r;simp only[locs,VH]at d;subst d;exact(Vb.1 h1).1
 |.mp _,_,r,l,d=>by obtain⟨_,_,h1,_⟩:=r;simp only[locs,VH]at d;subst d;exact(Vb.1 h1).1
 |.tptr _ _ _,_,r,l,d=>by obtain⟨_,_,h1,_⟩:=r;simp only[locs,VH]at d;subst d;exact(Vb.1 h1).1
 |.town _ _ _,_,r,l,d=>by obtain⟨_,_,_,_,_,h1,_⟩:=r;simp only[locs,VH]at d;subst d;exact(Vb.1 h1).1
 |.vw _ _ _ _,_,r,l,d=>by obtain⟨_,_,_,_,_,h1,_⟩:=r;simp only[locs,VH]at d;subst d;exact(Vb.1 h1).1
 |.int _ _,_,_,_,d| .bool _,_,_,_,d| .str _,_,_,_,d| .nilp,_,_,_,d| .nilf,_,_,_,d| .nili,_,_,_,d| .emp _,_,_,_,d| .nilm,_,_,_,d| .nils,_,_,_,d| .rows _,_,_,_,d| .lit _,_,_,_,d| .rptr _ _,_,_,_,d| .any,_,_,_,d=>by simp[locs]at d
theorem RepL.locs_lt:∀(c:List AV) (vs:List Value),RepL μ h w c vs→∀l,l∈Zg c→l<h.length
 |[],_,_,_,d=>by simp[Zg]at d
 |a::r,_,x,l,d=>by
  obtain⟨v,k,q,h1,h2⟩:=x;simp only[Zg,Vg]at d;rcases d with d|d
  ·exact Rep.locs_lt a v h1 l d
  exact RepL.locs_lt r k h2 l d
end
theorem Wq:∀(ls:List Nat) (l:Nat),YQ ls l<ls.length↔l∈ls
 |[],l=>by simp[YQ]
 |x::r,l=>by
  by_cases d:x=l
  ·simp[YQ,d]
  have:=Wq r l;simp only[YQ,Vm d,VC,Vn];constructor
  ·intro h;exact .inr (this.1 (by omega))
  rintro(h|h)
  ·exact absurd h.symm d
  have:=this.2 h;omega
theorem QM:∀(ls:List Nat) (l:Nat),l∈ls→ls[YQ ls l]?=some l
 |[],l,h=>by simp at h
 |x::r,l,h=>by
  by_cases d:x=l
  ·simp[YQ,d]
  simp only[YQ,Vm d,VJ];refine QM r l ?_;rcases Vn.1 h with h|h
  ·exact absurd h.symm d
  exact h
theorem Zaf:∀(ls:List Nat) (i l:Nat),ls.Nodup→ls[i]?=some l→YQ ls l=i
 |[],i,l,_,h=>by simp at h
 |x::r,0,l,_,h=>by simp only[Vt,Va]at h;simp[YQ,h]
 |x::r,i+1,l,k,h=>by
  simp only[VJ]at h;have d:x≠l:=fun e=>by subst e;exact(Vx.1 k).1 (Ve h)
  simp only[YQ,Vm d];rw[Zaf r i l (Vx.1 k).2 h]
theorem Wc(h:Za):∀(n:Nat) (l s:List Nat),s.Nodup→(Y7 h n l s).Nodup
 |0,l,s,hs| n+1,[],s,hs=>by simpa[Y7]using hs
 |n+1,l::r,s,hs=>by
  simp only[Y7];split
  ·exact Wc h n r s hs
  rename_i k;have q:l∉s:=by simpa using k
  have:(s++[l]).Nodup:=by rw[VY];refine⟨hs,by simp,fun a A b d=>?_⟩;simp only[VH]at d;subst d;exact fun e=>q (e▸A)
  split
  ·exact Wc h n _ _ this
  exact Wc h n _ _ this
theorem Zeb(h:Za)(σ:Nat→Nat):∀(ls:List Nat) (hs:Za),sub h σ ls=some hs→hs.length=ls.length∧∀(i l:Nat),ls[i]?=some l→∃b:Blk,h[l]?=some b∧hs[i]?=some (YY σ b)
 |[],hs,e=>by simp only[sub,Va]at e;subst e;exact⟨rfl,fun i l d=>by simp at d⟩
 |x::r,hs,e=>by
  simp only[sub]at e;split at e
  ·rename_i b q;split at e
   ·rename_i k A;simp only[Va]at e;subst e;obtain⟨h1,h2⟩:=Zeb h σ r k A;refine⟨by simp[h1],fun i l d=>?_⟩;cases i with
    |zero =>
     simp only[Vt,Va]at d;subst d;exact⟨b,q,by simp⟩
    |succ i =>
     simp only[VJ]at d ⊢;exact h2 i l d
   simp at e
  simp at e
theorem YI{n:Nat}:∀{l:List Nat},Zi n l=true→∀i,i∈l→i<n
 |[],_,i,hi=>by simp at hi
 |x::r,e,i,hi=>by
  simp only[Zi,VA,VK]at e;rcases Vn.1 hi with rfl|hi
  ·exact e.1
  exact YI e.2 i hi
theorem Wo:∀{h:Za} {i:Nat} {b:Blk},h[i]?=some b→∀l,l∈ZA b→l∈Zk h
 |[],_,_,e,_,_=>by simp at e
 |x::r,0,b,e,l,d=>by simp only[Vt,Va]at e;subst e;simp[Zk,d]
 |x::r,i+1,b,e,l,d=>by simp only[VJ]at e;have:=Wo e l d;simp[Zk,this]
mutual
theorem ZnK(σ:Nat→Nat):∀a:AV,locs (ren σ a)=(locs a).map σ
 |.agg cs| .tup cs| .fn _ cs| .bnd _ cs=>by simp only[ren,locs];exact Qo σ cs
 |.iface _ a=>by simp only[ren,locs];exact ZnK σ a
 |.ptr _ _| .own _ _| .optr _ _ _ _=>by simp[ren,locs]
 |.mp _=>rfl
 |.tptr _ _ _| .town _ _ _| .vw _ _ _ _| .int _ _| .bool _| .str _| .nilp| .nilf| .nili| .emp _| .nilm| .nils| .rows _| .lit _| .rptr _ _| .any=>by simp[ren,locs]
theorem Qo(σ:Nat→Nat):∀l:List AV,Zg (Xl σ l)=(Zg l).map σ
 |[]=>by simp[Xl,Zg]
 |a::r=>by simp only[Xl,Zg,Ua,ZnK σ a,Qo σ r]
end
theorem Js(σ:Nat→Nat):∀l:List AV,singles (Xl σ l)=singles l
 |[]=>rfl
 |a::r=>by have:=Js σ r;cases a<;>simp[Xl,ren,singles,single,this]
end
section
variable{Bs:World→Prop}
theorem Zgk(σ:Nat→Nat):∀rs:List (List AV),Zz (XN σ rs)=(Zz rs).map σ
 |[]=>rfl
 |r::rs=>by show Zg (Xl σ r)++Zz (XN σ rs)=(Zg r++Zz rs).map σ;rw[Qo,Zgk σ rs,Ua]
theorem RowsN.ren{Bs:World→Prop}{μ μ':Mp Bs}{h:Za}{w:World}{σ:Nat→Nat}(F:∀(a:AV) (v:Value),(∀i,i∈locs a→i∈Zz rs)→Rep μ h w a v→Rep μ' h' w (Go.Ab.ren σ a) v)
  (r:RowsN μ h w z rs vs):RowsN μ' h' w z (XN σ rs) vs:=by
 intro i row d;rw[Zrk]at d;cases q:rs[i]? with
 |none=>rw[q]at d;simp at d
 |some row0 =>
  rw[q]at d;simp only[Ue,Va]at d;subst d;obtain⟨h1,h2,h3⟩:=r i row0 q;refine⟨by rw[Zg0];exact h1,by rw[Js];exact h2,fun c a k=>?_⟩;rw[Zqo]at k;cases A:row0[c]? with
  |none=>rw[A]at k;simp at k
  |some a0 =>
   rw[A]at k;simp only[Ue,Va]at k;subst k;obtain⟨v,B,D⟩:=h3 c a0 A;exact⟨v,B,F a0 v (fun i hi=>ZiD (Ve q) (Zhw (Ve A) hi)) D⟩
def X3(μ:Mp Bs)(h:Za)(ls:List Nat):Mp Bs :=
 ⟨fun i=>match ls[i]? with
  |some l=>μ l
  |none=>none,fun b o=>μ.out b o∨∃(l:Nat) (k:Blk),l∉ls∧h[l]?=some k∧μ l=some b∧k.open_ o,μ.still⟩
structure IsPart(h:Za)(ls:List Nat)(hs:Za):Prop where
 nodup:ls.Nodup
 len:hs.length=ls.length
 there:∀(i l:Nat),ls[i]?=some l→∃b:Blk,h[l]?=some b∧hs[i]?=some (YY (YQ ls) b)
 closed:∀l,l∈Zk hs→l<ls.length
structure Joins(h:Za)(ls:List Nat)(h2 h3:Za):Prop where
 le:ls.length≤h2.length
 len:h3.length=h.length+(h2.length-ls.length)
 old:∀l,l<h.length→l∉ls→h3[l]?=h[l]?
 new:∀(i:Nat) (b:Blk),h2[i]?=some b→h3[ZO ls h.length i]?=some (YY (ZO ls h.length) b)
def QV(μ:Mp Bs)(h:Za)(ls:List Nat)(μ2:Mp Bs):Mp Bs :=
 ⟨fun l=>if l<h.length then(if l∈ls then μ2 (YQ ls l)else μ l)else μ2 (l-h.length+ls.length),μ.out,μ.still⟩
theorem ZcB(σ:Nat→Nat)(k:Blk)(o:Nat):(YY σ k).open_ o↔k.open_ o:=by
 cases k with
 |rows z rs wr=>show(wr=true∨z*(XN σ rs).length≤o)↔_;rw[YC];exact Iff.rfl
 |_=>exact Iff.rfl
end
section
variable{Bs:World→Prop}
variable{P:Program}{μ μ2:Mp Bs}{h hs h2 h3:Za}{w w':World}{ls:List Nat}
theorem IsPart.lt(d:IsPart h ls hs)(k:l∈ls):l<h.length:=by obtain⟨b,h1,_⟩:=d.there _ l (QM ls l k);exact(Vb.1 h1).1
theorem Wy(e:ls[i]?=some l):(X3 μ h ls) i=μ l:=by simp only[X3,e]
theorem IsPart.nth(d:IsPart h ls hs)(hi:i<hs.length):∃l,ls[i]?=some l∧l∈ls:=by rw[d.len]at hi;exact⟨ls[i],VB hi,List.getElem_mem hi⟩
theorem IsPart.keeps(q:IsPart h ls hs)(A:l∈ls):Wk μ h (X3 μ h ls) hs (YQ ls) l:=fun k B=>by have d:=QM ls l A;obtain⟨b,h1,h2⟩:=q.there _ l d;rw[B]at h1;simp only[Va]at h1;subst h1;exact⟨h2,Wy d⟩
theorem IsPart.mut(A:IsPart h ls hs):Mut (X3 μ h ls) hs b o↔Mut μ h b o:=by
 constructor
 ·rintro((ho|⟨l,k,_,hl,hm,ho⟩)|⟨i,k,hi,hm,ho⟩)
  ·exact .inl ho
  ·exact .inr ⟨l,k,hl,hm,ho⟩
  obtain⟨l,e,_⟩:=A.nth (Vb.1 hi).1;obtain⟨b',h1,h2⟩:=A.there i l e;rw[hi]at h2;simp only[Va]at h2;subst h2;rw[Wy e]at hm;exact .inr ⟨l,b',h1,hm,(ZcB _ _ _).1 ho⟩
 rintro(ho|⟨l,k,hl,hm,ho⟩)
 ·exact .inl (.inl ho)
 by_cases d:l∈ls
 ·have q:=QM ls l d;obtain⟨b',h1,h2⟩:=A.there _ l q;rw[hl]at h1;simp only[Va]at h1;subst h1;exact .inr ⟨_,_,h2,by rw[Wy q];exact hm,(ZcB _ _ _).2 ho⟩
 exact .inl (.inr ⟨l,k,d,hl,hm,ho⟩)
theorem IsPart.rep(d:IsPart h ls hs){l:List AV}{vs:List Value}(k:∀i,i∈Zg l→i∈ls)(r:RepL μ h w l vs):RepL (X3 μ h ls) hs w (Xl (YQ ls) l) vs :=
 RepL.ren (fun _ _ q=>d.mut.1 q) l vs (fun i hi=>d.keeps (k i hi)) r
theorem IsPart.rel(d:IsPart h ls hs)(B:Rel μ h w):Rel (X3 μ h ls) hs w where
 inj:=fun i j b hi L q D=>by obtain⟨l,e,A⟩:=d.nth hi;obtain⟨l',e',E⟩:=d.nth L;rw[Wy e]at q;rw[Wy e']at D;have:l=l':=B.inj l l' b (d.lt A) (d.lt E) q D;subst this;rw[←Zaf ls i l d.nodup e,←Zaf ls j l d.nodup e']
 blk:=fun i k hi=>by
  obtain⟨l,e,A⟩:=d.nth (Vb.1 hi).1;obtain⟨b',h1,h2⟩:=d.there i l e;rw[hi]at h2;simp only[Va]at h2;subst h2;have O:=hi;have:=B.blk l b' h1;cases b' with
  |cells cs =>
   obtain⟨b,vs,T,h3,G,N,Q⟩:=this;refine⟨b,vs,T,by rw[Wy e];exact h3,G,by rw[Js];exact N,d.rep (fun j L=>?_) Q⟩;refine(Wq ls j).1 (d.closed _ (Wo hi _ ?_));show _∈Zg (Xl _ cs);rw[Qo];exact UQ L
  |rows z rs wr =>
   rcases this with⟨h3,G⟩|⟨b,vs,T,h3,G,N,Q⟩
   ·exact .inl ⟨h3.ren _,by rw[Wy e];exact G⟩
   refine .inr ⟨b,vs,T,by rw[Wy e];exact h3,by rw[YC];exact G,by rw[YC];exact N,Q.ren fun a v hi r=>Rep.ren (fun _ _ J=>d.mut.1 J) a v (fun j L=>d.keeps ((Wq ls j).1 (d.closed _ (Wo O _ ?_)))) r⟩;show _∈Zz (XN _ rs);rw[Zgk];exact UQ (hi j L)
  |hole =>
   show(X3 μ h ls) i=none;rw[Wy e];exact this
  |map es =>
   obtain⟨b,ms,c,h3,G,N⟩:=this;exact⟨b,ms,c,by rw[Wy e];exact h3,G,N.keep fun b o v U q=>⟨U,fun J=>q (d.mut.1 J)⟩⟩
 apart:=fun i b o hi q H=>by
  obtain⟨l,e,A⟩:=d.nth hi;rw[Wy e]at q;rcases H with H|⟨l',k,W,E,D,_⟩
  ·exact B.apart l b o (d.lt A) q H
  have:l'=l:=B.inj l' l b (Vb.1 E).1 (d.lt A) D q;subst this;exact W A
 still:=fun b S=>⟨(B.still b S).1,fun i hi J=>by obtain⟨l,e,A⟩:=d.nth hi;rw[Wy e]at J;exact(B.still b S).2 l (d.lt A) J⟩
 base:=B.base
 old:=fun b o H=>by
  rcases H with H|⟨l,k,_,A,q,_⟩
  ·exact B.old b o H
  exact B.mapped (Vb.1 A).1 q
theorem WP(e:ls[i]?=some l):ZO ls m i=l:=by simp only[ZO,e]
theorem Zby(e:ls.length≤i):ZO ls m i=m+(i-ls.length):=by simp only[ZO,UG e]
theorem YD(d:IsPart h ls hs)(i:Nat):(QV μ h ls μ2) (ZO ls h.length i)=μ2 i:=by
 by_cases hi:i<ls.length
 ·obtain⟨l,e,k⟩:=d.nth (by rw[d.len];exact hi);rw[WP e];simp only[QV,d.lt k,V7,k];rw[Zaf ls i l d.nodup e]
 rw[Zby (S6 hi)];have h1:¬(h.length+(i-ls.length)<h.length):=by omega
 simp only[QV,h1,UA];congr 1;omega
theorem YE(h1:l<h.length)(h2:l∉ls):(QV μ h ls μ2) l=μ l:=by simp only[QV,h1,V7,h2,UA]
theorem Joins.cover(d:Joins h ls h2 h3)(q:l<h3.length):(l<h.length∧l∉ls)∨∃i,i<h2.length∧l=ZO ls h.length i:=by
 by_cases h1:l<h.length
 ·by_cases k:l∈ls
  ·exact .inr ⟨YQ ls l,Ur ((Wq ls l).2 k) d.le,(WP (QM ls l k)).symm⟩
  exact .inl ⟨h1,k⟩
 refine .inr ⟨l-h.length+ls.length,?_,?_⟩
 ·have:=d.len;have:=d.le;omega
 rw[Zby (by omega)];omega
theorem Joins.at_outer(d:Joins h ls h2 h3){k:Blk}(hi:i<h2.length)(e:h3[ZO ls h.length i]?=some k):∃b,h2[i]?=some b∧k=YY (ZO ls h.length) b:=by have:=d.new i h2[i] (VB hi);rw[this]at e;simp only[Va]at e;exact⟨h2[i],VB hi,e.symm⟩
theorem Joins.mut(H:IsPart h ls hs)(B:Joins h ls h2 h3)(E:μ2.out=(X3 μ h ls).out):Mut (QV μ h ls μ2) h3 b o↔Mut μ2 h2 b o:=by
 constructor
 ·rintro(d|⟨l,k,A,q,d⟩)
  ·exact .inl (by rw[E];exact .inl d)
  rcases B.cover (Vb.1 A).1 with⟨h1,G⟩|⟨i,hi,rfl⟩
  ·rw[B.old l h1 G]at A;rw[YE h1 G]at q;exact .inl (by rw[E];exact .inr ⟨l,k,G,A,q,d⟩)
  obtain⟨b',L,rfl⟩:=B.at_outer hi A;rw[YD H]at q;exact .inr ⟨i,b',L,q,(ZcB _ _ _).1 d⟩
 rintro(d|⟨i,k,hi,q,d⟩)
 ·rw[E]at d;rcases d with d|⟨l,k,J,A,q,d⟩
  ·exact .inl d
  have D:=(Vb.1 A).1;exact .inr ⟨l,k,by rw[B.old l D J];exact A,by rw[YE D J];exact q,d⟩
 exact .inr ⟨_,_,B.new i k hi,by rw[YD H];exact q,(ZcB _ _ _).2 d⟩
theorem Joins.keeps(d:IsPart h ls hs)(q:Joins h ls h2 h3)(i:Nat):Wk μ2 h2 (QV μ h ls μ2) h3 (ZO ls h.length) i :=
 fun k A=>⟨q.new i k A,YD d i⟩
theorem Joins.rep(d:IsPart h ls hs)(k:Joins h ls h2 h3)(q:μ2.out=(X3 μ h ls).out)(r:Rep μ2 h2 w' a v):Rep (QV μ h ls μ2) h3 w' (ren (ZO ls h.length) a) v :=
 Rep.ren (fun _ _ A=>(k.mut d q).1 A) a v (fun i _=>k.keeps d i) r
theorem Joins.repL(d:IsPart h ls hs)(k:Joins h ls h2 h3)(q:μ2.out=(X3 μ h ls).out){a:List AV}{v:List Value}(r:RepL μ2 h2 w' a v):RepL (QV μ h ls μ2) h3 w' (Xl (ZO ls h.length) a) v :=
 RepL.ren (fun _ _ A=>(k.mut d q).1 A) a v (fun i _=>k.keeps d i) r
theorem ZaI(k:IsPart h ls hs)(q:Rel μ h w)(e:Ext (X3 μ h ls) hs w μ2 h2 w')(h1:l<h.length)(D:l∉ls)(A:μ l=some b):
  w'.heap[b]?=w.heap[b]?∧∀i,i<h2.length→μ2 i≠some b :=
 e.outside b (q.mapped h1 A) fun i hi B=>by obtain⟨l',e',d⟩:=k.nth hi;rw[Wy e']at B;have:l'=l:=q.inj l' l b (k.lt d) h1 B A;subst this;exact D d
theorem Joins.ext(B:IsPart h ls hs)(E:Joins h ls h2 h3)(e:Ext (X3 μ h ls) hs w μ2 h2 w'):Ext μ h w (QV μ h ls μ2) h3 w' where
 out:=rfl
 still:=rfl
 os:=e.os
 tape:=e.tape
 output:=e.output
 size:=e.size
 keep:=fun b o v W X=>by obtain⟨h1,G⟩:=e.keep b o v W (fun D=>X (B.mut.1 D));exact⟨h1,fun D=>G ((E.mut B e.out).1 D)⟩
 outside:=fun b Y Q=>by
  obtain⟨h1,G⟩:=e.outside b Y fun i hi D=>by obtain⟨l',e',N⟩:=B.nth hi;rw[Wy e']at D;exact Q l' (B.lt N) D
  refine⟨h1,fun l A D=>?_⟩;rcases E.cover A with⟨H,J⟩|⟨i,hi,rfl⟩
  ·rw[YE H J]at D;exact Q l H D
  rw[YD B]at D;exact G i hi D
 cells:=fun l cs A=>by
  have k:=(Vb.1 A).1;by_cases d:l∈ls
  ·have q:=QM ls l d;obtain⟨h1,G⟩:=B.keeps (μ:=μ) d _ A;obtain⟨⟨Z,H⟩,J⟩:=e.cells _ _ h1;have:=E.new _ _ H;rw[WP q]at this;refine⟨⟨_,this⟩,?_⟩;have L:=YD (μ:=μ) (μ2:=μ2) B (YQ ls l);rw[WP q]at L;exact L.trans (J.trans G)
  exact⟨⟨cs,by rw[E.old l k d];exact A⟩,YE k d⟩
 rows:=fun l z rs wr A=>by
  have k:=(Vb.1 A).1;by_cases d:l∈ls
  ·have q:=QM ls l d;obtain⟨h1,G⟩:=B.keeps (μ:=μ) d _ A;obtain⟨a0,O,H,J,L⟩:=e.rows _ _ _ _ h1;have:=E.new _ _ H;rw[WP q]at this;rw[YC]at J;refine⟨_,O,this,by rw[YC];exact J,fun S=>?_⟩;rw[YC]at S;have U:=YD (μ:=μ) (μ2:=μ2) B (YQ ls l);rw[WP q]at U;exact U.trans ((L (by rw[YC];exact S)).trans G)
  exact⟨rs,wr,by rw[E.old l k d];exact A,Vw _,fun _=>YE k d⟩
 len:=by have:=E.len;have:=E.le;omega
 maps:=fun l es A=>by
  have k:=(Vb.1 A).1;by_cases d:l∈ls
  ·have q:=QM ls l d;obtain⟨h1,G⟩:=B.keeps (μ:=μ) d _ A;obtain⟨⟨a1,H⟩,J⟩:=e.maps _ _ h1;have:=E.new _ _ H;rw[WP q]at this;refine⟨⟨_,this⟩,?_⟩;have L:=YD (μ:=μ) (μ2:=μ2) B (YQ ls l);rw[WP q]at L;exact L.trans (J.trans G)
  exact⟨⟨es,by rw[E.old l k d];exact A⟩,YE k d⟩
 sizes:=e.sizes
theorem Joins.rel(d:IsPart h ls hs)(E:Joins h ls h2 h3)(J:Rel μ h w)(Q:Rel μ2 h2 w')(e:Ext (X3 μ h ls) hs w μ2 h2 w'):Rel (QV μ h ls μ2) h3 w' where
 inj:=fun l l' b O X A q=>by
  rcases E.cover O with⟨h1,B⟩|⟨i,hi,rfl⟩<;>rcases E.cover X with⟨L,S⟩|⟨j,U,rfl⟩
  ·rw[YE h1 B]at A;rw[YE L S]at q;exact J.inj l l' b h1 L A q
  ·rw[YE h1 B]at A;rw[YD d]at q;exact absurd q ((ZaI d J e h1 B A).2 j U)
  ·rw[YD d]at A;rw[YE L S]at q;exact absurd A ((ZaI d J e L S q).2 i hi)
  rw[YD d]at A q;rw[Q.inj i j b hi U A q]
 blk:=fun l k O=>by
  have Y:=E.ext d e;rcases E.cover (Vb.1 O).1 with⟨h1,B⟩|⟨i,hi,rfl⟩
  ·rw[E.old l h1 B]at O;have:=J.blk l k O;cases k with
   |cells cs =>
    obtain⟨b,vs,T,H,D,G,N⟩:=this;exact⟨b,vs,T,by rw[YE h1 B];exact H,by rw[(ZaI d J e h1 B H).1];exact D,G,RepL.ext Y cs vs N⟩
   |rows z rs wr =>
    rcases this with⟨H,D⟩|⟨b,vs,T,H,D,G,N⟩
    ·exact .inl ⟨H,by rw[YE h1 B];exact D⟩
    exact .inr ⟨b,vs,T,by rw[YE h1 B];exact H,D.eq (ZaI d J e h1 B H).1,G,N.ext Y⟩
   |hole =>
    show(QV μ h ls μ2) l=none;rw[YE h1 B];exact this
   |map es =>
    obtain⟨b,ms,c,H,D,G⟩:=this;exact⟨b,ms,c,by rw[YE h1 B];exact H,by rw[(ZaI d J e h1 B H).1];exact D,G.keep Y.keep⟩
  obtain⟨b',H,rfl⟩:=E.at_outer hi O;have:=Q.blk i b' H;cases b' with
  |cells cs =>
   obtain⟨b,vs,T,D,G,N,Z⟩:=this;exact⟨b,vs,T,by rw[YD d];exact D,G,by rw[Js];exact N,E.repL d e.out Z⟩
  |rows z rs wr =>
   rcases this with⟨D,G⟩|⟨b,vs,T,D,G,N,Z⟩
   ·exact .inl ⟨D.ren _,by rw[YD d];exact G⟩
   exact .inr ⟨b,vs,T,by rw[YD d];exact D,by rw[YC];exact G,by rw[YC];exact N,Z.ren fun a v _ r=>Rep.ren (fun _ _ hx=>(E.mut d e.out).1 hx) a v (fun i _=>E.keeps d i) r⟩
  |hole =>
   show(QV μ h ls μ2) _=none;rw[YD d];exact this
  |map es =>
   obtain⟨b,ms,c,D,G,N⟩:=this;exact⟨b,ms,c,by rw[YD d];exact D,G,N.keep fun b o v hc A=>⟨hc,fun hx=>A ((E.mut d e.out).1 hx)⟩⟩
 apart:=fun l b o O A W=>by
  rcases E.cover O with⟨h1,B⟩|⟨i,hi,rfl⟩
  ·rw[YE h1 B]at A;exact J.apart l b o h1 A W
  rw[YD d]at A;refine Q.apart i b o hi A ?_;rw[e.out];exact .inl W
 old:=fun b o W=>Ur (J.old b o W) e.size
 still:=(J.carry (E.ext d e)).1
 base:=(J.carry (E.ext d e)).2
end
section
variable{Bs:World→Prop}
variable{P:Program}{μ:Mp Bs}{h:Za}{w:World}{a:Act}{o:Oper}{x:AV}
theorem ZdG{ev:Operand→AV}{ρ:Operand→Value}(S:Rel μ h w)(U:XF μ h w ev ρ)(z:Nat):∀(d:List (Nat×Operand)) (k:Nat) (rs:List (List AV)),Ji h ev z k d=some rs →
  ∃flat:List Value,flat.length=rs.length*z∧RowsN μ h w z rs flat.toArray ∧
   ∀arr:Array Value,(k+rs.length)*z≤arr.size→∃us:Array Value,Instr.fill (fun i=>some (i*z,z)) arr (d.map fun p=>(p.1,ρ p.2))=some us ∧
    us.toList=arr.toList.take (k*z)++flat++arr.toList.drop ((k+rs.length)*z)
 |[],k,rs,e=>by simp only[Ji,Va]at e;subst e;refine⟨[],by simp,fun i row e=>by simp at e,fun arr E=>⟨arr,rfl,by simp⟩⟩
 |(j,x)::d,k,rs,e=>by
  simp only[Ji]at e;split at e
  ·rename_i Z;subst Z;split at e
   ·rename_i cs G;split at e
    ·rename_i H;split at e
     ·rename_i A J;simp only[Va]at e;subst e;obtain⟨flat,L,N,O⟩:=ZdG S U z d (k+1) A J;obtain⟨hs,W⟩:=XX G (Zgw S _ _ (U x));have B:(ρ x).cells.toList.length=z:=by rw[W.len];exact H
      have X:(ρ x).cells.size=z:=by simpa using B
      refine⟨(ρ x).cells.toList++flat,by simp only[Vu,B,L,VC,Un];omega,?_,?_⟩
      ·intro i row q;cases i with
       |zero =>
        simp only[Vt,Va]at q;subst q;refine⟨H,hs,fun c a E=>?_⟩;obtain⟨u,h1,h2⟩:=(RepL.at cs _ W).2 c a E;refine⟨u,?_,h2⟩;have hc:c<z:=by rw[←H];exact(Vb.1 E).1
        simp only[Ph,VZ,VU];rw[Vh (by omega)];exact h1
       |succ i =>
        simp only[VJ]at q;obtain⟨h1,h2,h3⟩:=N i row q;refine⟨h1,h2,fun c a E=>?_⟩;obtain⟨u,Y,h5⟩:=h3 c a E;refine⟨u,?_,h5⟩;simp only[VU]at Y ⊢;rw[Vy (by rw[B,Un];omega),B,show(i+1)*z+c-z=i*z+c from by rw[Un];omega];exact Y
      intro arr E;simp only[VC]at E;have hA:k*z+z≤arr.size:=by have:(k+1)*z≤(k+(A.length+1))*z:=VT z (by omega);rw[Un]at this;omega
      have D:=Zdo (k*z) (ρ x).cells.toList 0 arr (by simp;omega);obtain⟨us,h1,h2⟩:=O ((ρ x).cells.zipIdx.foldl (fun cs (y:Value×Nat)=>cs.setIfInBounds (k*z+y.2) y.1) arr) (by
       have:((ρ x).cells.zipIdx.foldl (fun cs (y:Value×Nat)=>cs.setIfInBounds (k*z+y.2) y.1) arr).toList.length=arr.size:=by rw[←SV,SM,D];simp;omega
       rw[SN]at this;rw[this,show k+1+A.length=k+(A.length+1)from by omega];exact E)
      refine⟨us,?_,?_⟩
      ·simp only[Vz,Instr.fill];rw[Vm (by simp;omega)];exact h1
      rw[h2,←SV,SM,D];have Q:(arr.toList.take (k*z+0)++(ρ x).cells.toList).length=(k+1)*z:=by simp only[Vu,Sv,SN,B,Un];omega
      rw[Sn (by rw[Q];exact Vw _),VM (by rw[Q];exact Vw _)];rw[show(k+1+A.length)*z=(arr.toList.take (k*z+0)++(ρ x).cells.toList).length+A.length*z from by rw[Q,Uj (k+1)]];rw[List.drop_append,List.drop_eq_nil_of_le (by omega),Uw,Sx,Vi];simp only[Ug,Vo,B,VC];congr 4;rw[Uj,Uj,Nat.one_mul];omega
     simp at e
    simp at e
   simp at e
  simp at e
theorem Zlp{q:Bool}{ev:Operand→AV}{ρ:Operand→Value}{d:Array (Nat×Operand)}(G:Rel μ h w)(he:XF μ h w ev ρ)(e:Zbc q h ev n d.toList (es P t)=some (x,h')):
  Zk8 P μ h w (Instr.buildSlice t n (d.map fun(i,x)=>(i,ρ x))) x h':=by
 unfold Zbc at e;split at e
 ·rename_i z b H;obtain⟨u,i,y,U,hi,W,_,hy,_⟩:=Zb4 H;unfold ZiL at e;split at e
  ·rename_i rs J;split at e
   ·rename_i hc;obtain⟨E,X⟩:=hc;simp only[Va,Vp]at e;obtain⟨rfl,rfl⟩:=e;obtain⟨flat,L,N,O⟩:=ZdG G he z d.toList 0 rs J;have A:∀zero:Array Value,∃us:Array Value,Instr.fill (fun i=>some (i*z,z)) ((Array.range (n*z)).map (zero[· % zero.size]!)) (d.toList.map fun p=>(p.1,ρ p.2))=some us∧us=flat.toArray:=by intro zero;obtain⟨us,h1,h2⟩:=O ((Array.range (n*z)).map (zero[· % zero.size]!)) (by simp[E]);refine⟨us,h1,?_⟩;apply UX;rw[h2];simp[E]
    have B:¬n*z>2^24:=by omega
    have Y:=Ext.push G (.rows z rs q) (some (.cells flat.toArray u));have D:flat.toArray.size=n*z:=by simp[L,E]
    have k:(w.alloc (.cells flat.toArray u)).heap[w.heap.size]?=some (.cells flat.toArray u (0,0)):=Xi _;refine⟨.slice (some ⟨w.heap.size,0,none⟩) n n,_,w.alloc (.cells flat.toArray u),?_,Rel.push G (.rows z rs q) (some (.cells flat.toArray u)) ?_,Y,?_⟩
    ·by_cases Z:n*z=0
     ·obtain⟨us,h1,rfl⟩:=A #[];simp only[Instr.buildSlice,VQ,Vs U,VF,sizeOf,typeInfo,PG,hi,V0,W,Vm B,Vr Z,SP];rw[h1];rfl
     obtain⟨us,h1,rfl⟩:=A y.cells;have Q:(zeroValue u).run P w=.ok y w:=by simp[zeroValue,typeInfo,hi,hy]
     simp only[Instr.buildSlice,VQ,Vs U,VF,sizeOf,typeInfo,PG,hi,V0,W,Vm B,Vm Z,Q,SP];rw[h1];rfl
    ·exact .inr ⟨w.heap.size,flat.toArray,u,set_same _ _,.free k,by rw[D,E];exact Vw _,N.ext Y⟩
    exact⟨z,rs,q,_,n,by simp,by omega,rfl,fun _=>⟨Vw _,fun S=>S,.inr ⟨w.heap.size,flat.toArray,u,rfl,set_same _ _,⟨_,k⟩,by rw[D];exact Vw _⟩⟩⟩
   simp at e
  simp at e
 simp at e
theorem Zn7{q:Bool}{d:Array (Nat×Operand)}{ev:Operand→AV}(k:Rel μ h w)(A:XF μ h w ev a.eval)(B:o.op=.buildSlice t n d)(e:Zbc q h ev n d.toList (es P t)=some (x,h')):Wb P o a μ h w x h':=by refine Zac ?_ (Zlp (P:=P) (t:=t) k A e);simp only[execOp,B,VQ];rfl
mutual
theorem Zpy(d:Rel μ h w):∀(a a':AV) (v:Value),conv h a=some a'→Rep μ h w a v→Rep μ h w a' v
 |.own l n,a',v,e,r=>by
  simp only[conv]at e;split at e
  ·rename_i z rs wr D;split at e
   ·simp only[Va]at e;subst e;exact r
   rename_i k;split at e
   ·rename_i E;simp only[Va]at e;subst e;refine Rep.pure _ _ (XQ d (.own l n) (.rows rs) v ?_ r);have k:wr=false∧Zz rs=[]:=by simpa using k
    obtain⟨rfl,q⟩:=k;simp[ZI,D,E,q]
   simp at e
  simp at e
 |.nils,a',v,e,r=>by simp only[conv,Va]at e;subst e;exact Rep.pure _ _ (XQ d .nils (.rows []) v (by simp[ZI]) r)
 |.lit rs,a',v,e,r=>by simp only[conv,Va]at e;subst e;exact Rep.pure _ _ (XQ d (.lit rs) (.rows rs) v (by simp[ZI]) r)
 |.agg cs,a',v,e,r=>by
  simp only[conv]at e;split at e
  ·rename_i A B;simp only[Va]at e;subst e;obtain⟨vs,G,r⟩:=r;exact⟨vs,G,Jr d cs A vs B r⟩
  simp at e
 |.optr _ _ _ _,_,_,e,r| .tup cs,_,_,e,r| .fn _ cs,_,_,e,r| .bnd _ cs,_,_,e,r| .iface _ a,_,_,e,r| .ptr _ _,_,_,e,r| .int _ _,_,_,e,r| .bool _,_,_,e,r| .str _,_,_,e,r| .nilp,_,_,e,r| .nilf,_,_,e,r| .nili,_,_,e,r| .emp _,_,_,e,r| .nilm,_,_,e,r| .rows _,_,_,e,r| .rptr _ _,_,_,e,r| .mp _,_,_,e,r| .tptr _ _ _,_,_,e,r| .town _ _ _,_,_,e,r| .vw _ _ _ _,_,_,e,r| .any,_,_,e,r=>by simp only[conv,Va]at e;subst e;exact r
theorem Jr(d:Rel μ h w):∀(l l':List AV) (vs:List Value),Qp h l=some l'→RepL μ h w l vs→RepL μ h w l' vs
 |[],l',vs,e,r=>by simp only[Qp,Va]at e;subst e;exact r
 |a::r,l',vs,e,x=>by
  simp only[Qp]at e;split at e
  ·rename_i q h1;split at e
   ·rename_i A h2;simp only[Va]at e;subst e;obtain⟨v,k,B,D,E⟩:=x;exact⟨v,k,B,Zpy d a q v h1 D,Jr d r A k h2 E⟩
   simp at e
  simp at e
end
theorem Z6(σ:Nat→Nat):∀(ls:List Nat) (d h:Za),(back σ ls d h).length=h.length
 |[],d,h| l::ls,[],h=>by simp[back]
 |l::ls,b::d,h=>by simp only[back];rw[Z6 σ ls d];simp
theorem Qa(σ:Nat→Nat):∀(ls:List Nat) (d h:Za) (l:Nat),l∉ls→(back σ ls d h)[l]?=h[l]?
 |[],d,h,l,_| x::ls,[],h,l,_=>by simp[back]
 |x::ls,b::d,h,l,k=>by simp only[back];rw[Qa σ ls d _ l (fun q=>k (VD _ q)),Vc (fun e=>k (by simp[e]))]
theorem ZeE(σ:Nat→Nat):∀(ls:List Nat) (d h:Za) (i l:Nat) (b:Blk),ls.Nodup→ls[i]?=some l→d[i]?=some b→l<h.length→(back σ ls d h)[l]?=some (YY σ b)
 |[],d,h,i,l,b,_,e,_,_| x::ls,[],h,i,l,b,_,_,e,_=>by simp at e
 |x::ls,y::d,h,0,l,b,k,e,e',q=>by simp only[Vt,Va]at e e';subst e e';simp only[back];rw[Qa σ ls d _ x (Vx.1 k).1,Vf q]
 |x::ls,y::d,h,i+1,l,b,k,e,e',q=>by simp only[VJ]at e e';simp only[back];exact ZeE σ ls d _ i l b (Vx.1 k).2 e e' (by simpa using q)
theorem ZiE(k:IsPart h ls hs)(d:h2.length=ls.length):Joins h ls h2 (back (ZO ls h.length) ls h2 h) where
 le:=by omega
 len:=by rw[Z6];omega
 old:=fun l _ A=>Qa _ _ _ _ _ A
 new:=fun i b q=>by
  have hi:i<hs.length:=by rw[k.len,←d];exact(Vb.1 q).1
  obtain⟨l,e,B⟩:=k.nth hi;rw[WP e];exact ZeE _ _ _ _ _ _ _ k.nodup e q (k.lt B)
theorem Zjk{b:Blk}(k:IsPart h ls hs)(D:h2.length=ls.length+1)(E:h2[ls.length]?=some b)(q:YY (ZO ls h.length) b=b):Joins h ls h2 (back (ZO ls h.length) ls h2 h++[b]) where
 le:=by omega
 len:=by simp only[Vu,Z6,Uo];omega
 old:=fun l A G=>by rw[Vh (by rw[Z6];exact A)];exact Qa _ _ _ _ _ G
 new:=fun i b' d=>by
  have H:=(Vb.1 d).1;by_cases hi:i<ls.length
  ·obtain⟨l,e,A⟩:=k.nth (by rw[k.len];exact hi);rw[WP e,Vh (by rw[Z6];exact k.lt A)];exact ZeE _ _ _ _ _ _ _ k.nodup e d (k.lt A)
  have B:i=ls.length:=by omega
  subst B;rw[E]at d;simp only[Va]at d;subst d;rw[Zby (Vw _),Vy (by rw[Z6];omega),Z6,q];simp
theorem Zb6(d:IsPart h ls hs)(A:ls.length≤h2.length):Joins h ls h2 (back (ZO ls h.length) ls h2 h++(h2.drop ls.length).map (YY (ZO ls h.length))) where
 le:=A
 len:=by simp only[Vu,Z6,Vd,SS]
 old:=fun l q B=>by rw[Vh (by rw[Z6];exact q)];exact Qa _ _ _ _ _ B
 new:=fun i b' k=>by
  by_cases hi:i<ls.length
  ·obtain⟨l,e,q⟩:=d.nth (by rw[d.len];exact hi);rw[WP e,Vh (by rw[Z6];exact d.lt q)];exact ZeE _ _ _ _ _ _ _ d.nodup e k (d.lt q)
  rw[Zby (by omega),Vy (by rw[Z6];omega),Z6,Vj,Uc,show ls.length+(h.length+(i-ls.length)-h.length)=i by omega,k];rfl
theorem joins_new(b:Blk)(k:ZA b=[]):Joins h [] [b] (h++[b]) where
 le:=by simp
 len:=by simp
 old:=fun l q _=>Vh q
 new:=fun i b' d=>by
  cases i with
  |zero =>
   simp only[Vt,Va]at d;subst d;rw[Zby (by simp)];have:YY (ZO [] h.length) b=b:=by
    cases b with
    |rows z rs wr =>
     show Blk.rows z (XN _ rs) wr=_;rw[loclessR _ rs k]
    |hole| map _=>rfl
    |cells cs =>
     have:∀l:List AV,Zg l=[]→Xl (ZO [] h.length) l=l:=locless_ren _;simp only[YY,this cs k]
   simp[this]
  |succ i=>simp at d
where
 loclessR (σ:Nat→Nat):∀rs:List (List AV),Zz rs=[]→XN σ rs=rs
  |[],_=>rfl
  |r::rs,h=>by have h:=Uy.1 (show Zg r++Zz rs=[]from h);simp only[XN];rw[locless_ren σ r h.1,loclessR σ rs h.2]
 locless (σ:Nat→Nat):∀a:AV,locs a=[]→ren σ a=a
  |.agg cs,h| .tup cs,h| .fn _ cs,h| .bnd _ cs,h=>by simp only[ren];rw[locless_ren σ cs h]
  |.iface _ a,h=>by simp only[ren];rw[locless σ a h]
  |.ptr _ _,h| .own _ _,h| .optr _ _ _ _,h| .mp _,h| .tptr _ _ _,h| .town _ _ _,h| .vw _ _ _ _,h=>by simp[locs]at h
  |.int _ _,_| .bool _,_| .str _,_| .nilp,_| .nilf,_| .nili,_| .emp _,_| .nilm,_| .nils,_| .rows _,_| .lit _,_| .rptr _ _,_| .any,_=>rfl
 locless_ren (σ:Nat→Nat):∀l:List AV,Zg l=[]→Xl σ l=l
  |[],_=>rfl
  |a::r,h=>by simp only[Zg,Uy]at h;simp only[Xl];rw[locless σ a h.1,locless_ren σ r h.2]
theorem part_nil:IsPart h [] [] where
 nodup:=by simp
 len:=rfl
 there:=fun i l e=>by simp at e
 closed:=fun l d=>by simp[Zk]at d
theorem Zah(G:Ww Bs P F){d:List Value}{h3:Za}(E:Rel μ h w)
  (k:Go.Proofs.Enters P g→(execOp a.eval o).run P w=.ok (.enter g d.toArray) w) (q:IsPart h ls hs) (H:RepL (X3 μ h ls) hs w args d)
  (e:F (.call g args hs)=some (r,h2)) (A:Joins h ls h2 h3):Wb P o a μ h w (ren (ZO ls h.length) r) h3:=by
 obtain⟨B,D⟩:=G _ _ _ _ _ e;exact QW (k B) D (q.rel E) H fun v μ2 w' q2 q3 q4=>⟨_,A.rel q E q2 q3,A.ext q q3,A.rep q q3.out q4⟩
end
section
variable{Bs:World→Prop}
variable{P:Program}{μ:Mp Bs}{h:Za}{w:World}{a:Act}{o:Oper}{x:AV}
variable{P:Program}{μ:Mp Bs}{h:Za}{w:World}
abbrev NoM:Nat→Nat→Prop:=fun _ _=>False
theorem Zff(M:Nat→Nat→Prop)(w:World):Zcj M w NoM w:=fun _ _ _ d _=>⟨d,fun x=>x⟩
theorem ZqW:∀(row:List AV) (V:Nat→Option Value),(∀(c:Nat) (a:AV),row[c]?=some a→∃v,V c=some v∧Rep μ h w a v)→∃l:List Value,RepL μ h w row l∧∀(c:Nat) (v:Value),l[c]?=some v→V c=some v
 |[],V,_=>⟨[],rfl,fun c v q=>by simp at q⟩
 |a::r,V,k=>by
  obtain⟨v,h1,h2⟩:=k 0 a rfl;obtain⟨l,h3,A⟩:=ZqW r (fun c=>V (c+1)) fun c a B=>k (c+1) a (by simpa using B);refine⟨v::l,⟨v,l,rfl,h2,h3⟩,fun c u d=>?_⟩;cases c with
  |zero=>simp only[Vt,Va]at d;subst d;exact h1
  |succ c=>exact A c u (by simpa using d)
theorem ZhC{M:Nat→Nat→Prop}:∀(row:List AV) (l:List Value),PRepL M w row l→∀(c:Nat) (a:AV),row[c]?=some a→∃v,l[c]?=some v∧PRep M w a v
 |[],_,_,c,a,d=>by simp at d
 |b::r,_,k,c,a,d=>by
  obtain⟨v,l,rfl,h1,h2⟩:=k;cases c with
  |zero=>simp only[Vt,Va]at d;subst d;exact⟨v,rfl,h1⟩
  |succ c=>exact ZhC r l h2 c a (by simpa using d)
def Zkx(μ:Mp Bs)(h:Za)(w:World)(f:List AV→Option (List AV)):Prop:=∀(cs cs':List AV) (vs:List Value),f cs=some cs'→RepL μ h w cs vs→PRepL NoM w cs' vs
theorem Zic{row row':List AV}{o:Option (List AV)}(e:Yd row o=some row'):o=some row'∧row'.length=row.length∧singles row'=true:=by
 unfold Yd at e;split at e
 ·split at e
  ·simp only[Va]at e;subst e;rename_i d;exact⟨rfl,d⟩
  simp at e
 simp at e
theorem Zjc{f:List AV→Option (List AV)}(d:Zkx μ h w f){row row':List AV}(e:Yd row (f row)=some row'){V:Nat→Option Value}(k:∀(c:Nat) (a:AV),row[c]?=some a→∃v,V c=some v∧Rep μ h w a v):
  row'.length=row.length∧singles row'=true∧∀(c:Nat) (a:AV),row'[c]?=some a→∃v,V c=some v∧PRep NoM w a v:=by
 obtain⟨q,A,B⟩:=Zic e;obtain⟨l,h1,h2⟩:=ZqW row V k;have h3:=d row row' l q h1;refine⟨A,B,fun c a D=>?_⟩;obtain⟨v,E,G⟩:=ZhC row' l h3 c a D;exact⟨v,h2 c v E,G⟩
theorem Zgq{f:List AV→Option (List AV)}:∀{rs d:List (List AV)},ZL f rs=some d→d.length=rs.length∧∀(i:Nat) (row':List AV),d[i]?=some row'→∃row,rs[i]?=some row∧Yd row (f row)=some row'
 |[],d,e=>by simp only[ZL,Va]at e;subst e;exact⟨rfl,fun i row' hi=>by simp at hi⟩
 |row::r,d,e=>by
  unfold ZL at e;split at e
  ·rename_i q h1;split at e
   ·rename_i E h2;simp only[Va]at e;subst e;obtain⟨h3,A⟩:=Zgq h2;refine⟨by simp[h3],fun i row' hi=>?_⟩;cases i with
    |zero=>simp only[Vt,Va]at hi;subst hi;exact⟨row,rfl,h1⟩
    |succ i =>
     obtain⟨k,B,D⟩:=A i row' (by simpa using hi);exact⟨k,by simpa using B,D⟩
   simp at e
  simp at e
theorem ZkC{f:List AV→Option (List AV)}(E:Zkx μ h w f){rs d:List (List AV)}(e:Z1 f rs=some d)(k:RowsN μ h w z rs vs):
  d.length=rs.length∧∀(i:Nat) (row':List AV),d[i]?=some row'→row'.length=z∧singles row'=true∧∀(c:Nat) (a:AV),row'[c]?=some a→∃v,vs[i*z+c]?=some v∧PRep NoM w a v:=by
 unfold Z1 at e;split at e
 ·rename_i G;simp only[Va]at e;subst e;refine⟨rfl,fun i row q=>?_⟩;obtain⟨h1,h2,h3⟩:=k.none G.1 i row q;refine⟨h1,h2,fun c a H=>?_⟩;obtain⟨v,A,B⟩:=h3 c a H;exact⟨v,A,PRep.keep (Zff _ _) a v B⟩
 obtain⟨h1,h2⟩:=Zgq e;refine⟨h1,fun i row' hi=>?_⟩;obtain⟨row,h3,A⟩:=h2 i row' hi;obtain⟨B,O,J⟩:=k i row h3;obtain⟨L,N,D⟩:=Zjc E A (V:=fun c=>vs[i*z+c]?) J;exact⟨L.trans B,N,D⟩
mutual
theorem ZgH(Q:Rel μ h w){f:List AV→Option (List AV)}(S:Zkx μ h w f):∀(a a':AV) (v:Value),ZH f h a=some a'→Rep μ h w a v→PRep NoM w a' v
 |.own l n,a',v,e,r=>by
  simp only[ZH]at e;split at e
  ·rename_i z rs wr U;split at e
   ·rename_i Z;split at e
    ·rename_i J hs;simp only[Va]at e;subst e;obtain⟨z',a0,a3,base,cap,B,_,rfl,E⟩:=r;rw[U]at B;simp only[Va,Blk.rows.injEq]at B;obtain⟨rfl,rfl,rfl⟩:=B;obtain⟨hc,_,hb⟩:=E Z.symm;rcases Q.blk l _ U with⟨_,L⟩|⟨b',N,T',D,⟨_,O,_⟩,H,G⟩
     ·have X:rs=[]:=by
       rcases hb with a6|⟨b,vs,T,_,W,_⟩
       ·exact VS.1 (by omega)
       rw[W]at L;simp at L
      subst X;have e2:J=[]:=by
       unfold Z1 at hs;split at hs
       ·simpa using hs.symm
       simpa[ZL]using hs.symm
      subst e2;have:n=0:=by simpa using Z.symm
      subst this;exact⟨base,cap,rfl,UB _,.inl rfl⟩
     obtain⟨h1,h2⟩:=ZkC S hs G;refine⟨base,cap,by rw[h1,Z],by omega,?_⟩;rcases hb with rfl|⟨b,vs,T,rfl,W,hw,_⟩
     ·left;have:J.length=0:=by omega
      exact VS.1 this
     right;have eb:b'=b:=by rw[W]at D;simpa using D.symm
     subst eb;refine⟨b',0,z,rfl,PRows.of_at J 0 fun i row d=>?_⟩;obtain⟨h3,h4,h5⟩:=h2 i row d;refine⟨h3,h4,PMem.of_at row _ fun c a ha=>?_⟩;obtain⟨u,Y,hp⟩:=h5 c a ha;exact⟨u,by simp only[World.cell?,O];simpa using Y,fun x=>x,hp⟩
    simp at e
   simp at e
  simp at e
 |.ptr l o,a',v,e,r=>by
  simp only[ZH]at e;split at e
  ·rename_i cs U;split at e
   ·rename_i A hs;simp only[Va]at e;subst e;obtain⟨a7,b,B,W,rfl⟩:=r;rcases Q.blk l _ U with⟨b',N,T',D,O,_,G⟩;have eb:b'=b:=by rw[W]at D;simpa using D.symm
    subst eb;obtain⟨e1,e2,e3⟩:=Zic hs;have h3:=S cs A N e1 G;refine⟨b',0,by rw[VZ],PMem.of_at A 0 fun c a ha=>?_⟩;obtain⟨u,Y,hp⟩:=ZhC A N h3 c a ha;exact⟨u,by simp only[World.cell?,O];simpa using Y,fun x=>x,hp⟩
   simp at e
  simp at e
 |.optr l n i o,a',v,e,r=>by
  simp only[ZH]at e;split at e
  ·rename_i z rs wr U;split at e
   ·rename_i Z;split at e
    ·rename_i row d;split at e
     ·rename_i row' hs;simp only[Va]at e;subst e;obtain⟨z',a0,a3,b,B,_,rfl,E⟩:=r;rw[U]at B;simp only[Va,Blk.rows.injEq]at B;obtain⟨rfl,rfl,rfl⟩:=B;have W:=E Z.symm;rcases Q.blk l _ U with⟨_,X⟩|⟨b',N,T',D,⟨_,O,_⟩,H,G⟩
      ·rw[W]at X;simp at X
      have eb:b'=b:=by rw[W]at D;simpa using D.symm
      subst eb;obtain⟨h5,h6,h7⟩:=G i row d;obtain⟨h8,h9,a4⟩:=Zjc S hs (V:=fun c=>N[i*z+c]?) h7;refine⟨b',i*z,rfl,PMem.of_at row' (i*z) fun c a ha=>?_⟩;obtain⟨u,Y,hp⟩:=a4 c a ha;exact⟨u,by simp only[World.cell?,O];simpa using Y,fun x=>x,hp⟩
     simp at e
    simp at e
   simp at e
  simp at e
 |.nils,a',v,e,r=>by simp only[ZH,Va]at e;subst e;have E:v=.slice none 0 0:=r;subst E;exact⟨none,0,rfl,Vw _,.inl rfl⟩
 |.lit rs,a',v,e,r=>by simp only[ZH,Va]at e;subst e;obtain⟨base,rfl,hb⟩:=PRep.keep (Zff _ _) (.lit rs) v r;exact⟨base,rs.length,rfl,Vw _,hb⟩
 |.agg cs,a',v,e,r=>by
  simp only[ZH]at e;split at e
  ·rename_i A hs;simp only[Va]at e;subst e;obtain⟨vs,E,r⟩:=r;exact⟨vs,E,WV Q S cs A vs hs r⟩
  simp at e
 |.tup cs,a',v,e,r=>by
  simp only[ZH]at e;split at e
  ·rename_i A hs;simp only[Va]at e;subst e;obtain⟨vs,E,r⟩:=r;exact⟨vs,E,WV Q S cs A vs hs r⟩
  simp at e
 |.fn g cs,a',v,e,r=>by
  simp only[ZH]at e;split at e
  ·rename_i A hs;simp only[Va]at e;subst e;obtain⟨vs,E,r⟩:=r;exact⟨vs,E,WV Q S cs A vs hs r⟩
  simp at e
 |.bnd g cs,a',v,e,r=>by
  simp only[ZH]at e;split at e
  ·rename_i A hs;simp only[Va]at e;subst e;obtain⟨vs,E,r⟩:=r;exact⟨vs,E,WV Q S cs A vs hs r⟩
  simp at e
 |.iface t a,a',v,e,r=>by
  simp only[ZH]at e;split at e
  ·rename_i a2 hs;simp only[Va]at e;subst e;obtain⟨x,E,r⟩:=r;exact⟨x,E,ZgH Q S a a2 x hs r⟩
  simp at e
 |.mp _,_,_,e,_| .tptr _ _ _,_,_,e,_| .town _ _ _,_,_,e,_=>by simp[ZH]at e
 |.vw l n q m,a',v,e,r=>by
  simp only[ZH]at e;split at e
  ·rename_i z rs wr U;split at e
   ·rename_i hc;obtain⟨Z,a8⟩:=hc;split at e
    ·rename_i J hs;simp only[Va]at e;subst e;have H:(cut rs q (q+m)).length=m:=by rw[Zdu _ _ _ (by omega)];omega
     rcases Ut m with X|X
     ·have a5:cut rs q (q+m)=[]:=VS.1 (by rw[H];exact X);rw[a5]at hs;have e2:J=[]:=by
       unfold Z1 at hs;split at hs
       ·simpa using hs.symm
       simpa[ZL]using hs.symm
      subst e2;obtain⟨z2,a0,a9,base,cap,h1,h2,rfl,h4⟩:=r;subst X;exact⟨base,cap,rfl,UB _,.inl rfl⟩
     obtain⟨cap,b,vs,T,rfl,h5,h6,W,⟨fz,hw,aa⟩,ab,ac,G⟩:=Zaj Q U Z (by omega) r;have a1:RowsN μ h w z (cut rs q (q+m)) (vs.toList.drop (q*z)).toArray:=fun i row d=>by
      rw[Zdd]at d;split at d
      ·obtain⟨q1,q2,q3⟩:=G (q+i) row d;refine⟨q1,q2,fun c x hx=>?_⟩;obtain⟨u,q4,q5⟩:=q3 c x hx;refine⟨u,?_,q5⟩;simp only[VU];rw[Uc,show q*z+(i*z+c)=(q+i)*z+c by rw[Uj];omega];simpa using q4
      simp at d
     obtain⟨h1,h2⟩:=ZkC S hs a1;refine⟨_,cap,by rw[h1,H],by omega,.inr ⟨b,q*z,z,rfl,PRows.of_at J (q*z) fun i row d=>?_⟩⟩;obtain⟨h3,h4,h5⟩:=h2 i row d;refine⟨h3,h4,PMem.of_at row _ fun c a ha=>?_⟩;obtain⟨u,Y,hp⟩:=h5 c a ha;refine⟨u,?_,fun x=>x,hp⟩;simp only[World.cell?,hw];simp only[VU,Uc]at Y;rw[show q*z+i*z+c=q*z+(i*z+c)by omega];simpa using Y
    simp at e
   simp at e
  simp at e
 |.int k n,a',v,e,r=>by simp only[ZH,Va]at e;subst e;exact r
 |.bool b,a',v,e,r=>by simp only[ZH,Va]at e;subst e;exact r
 |.str s,a',v,e,r=>by simp only[ZH,Va]at e;subst e;exact r
 |.nilp,a',v,e,r=>by simp only[ZH,Va]at e;subst e;exact r
 |.nilf,a',v,e,r=>by simp only[ZH,Va]at e;subst e;exact r
 |.nili,a',v,e,r=>by simp only[ZH,Va]at e;subst e;exact r
 |.nilm,a',v,e,r=>by simp only[ZH,Va]at e;subst e;exact r
 |.emp b,a',v,e,r=>by simp only[ZH,Va]at e;subst e;exact r
 |.rows rs,a',v,e,r=>by simp only[ZH,Va]at e;subst e;exact PRep.keep (Zff _ _) (.rows rs) v r
 |.rptr row o,a',v,e,r=>by simp only[ZH,Va]at e;subst e;exact PRep.keep (Zff _ _) (.rptr row o) v r
 |.any,a',v,e,r=>by simp only[ZH,Va]at e;subst e;exact trivial
theorem WV(k:Rel μ h w){f:List AV→Option (List AV)}(q:Zkx μ h w f):Zkx μ h w (Zs f h)
 |[],d,vs,e,r=>by simp only[Zs,Va]at e;subst e;exact r
 |a::l,d,vs,e,r=>by
  simp only[Zs]at e;split at e
  ·rename_i B h1;split at e
   ·rename_i D h2;simp only[Va]at e;subst e;obtain⟨v,A,E,G,H⟩:=r;exact⟨v,A,E,ZgH k q a B v h1 G,WV k q l D A h2 H⟩
   simp at e
  simp at e
end
theorem Zgz(d:Rel μ h w):∀n,Zkx μ h w (Zy n h)
 |0=>fun _ _ _ e _=>by simp[Zy]at e
 |n+1=>WV d (Zgz d n)
end
section
variable{Bs:World→Prop}
variable{P:Program}{μ:Mp Bs}{h:Za}{w:World}{a:Act}{o:Oper}{x:AV}
variable{P:Program}{μ:Mp Bs}{h:Za}{w:World}
variable{nb:Za}{w':World}{m:Nat→Option Nat}{o1 o2:Nat→Nat→Prop}{s1 s2:Nat→Prop}
theorem Zj3:∀(a:AV) (v:Value),Jl a=true→Rep (⟨m,o1,s1⟩:Mp Bs) nb w' a v→Rep (⟨m,o2,s2⟩:Mp Bs) nb w' a v
 |.int _ _,_,_,r| .bool _,_,_,r| .str _,_,_,r| .nilp,_,_,r| .nilf,_,_,r| .nili,_,_,r| .nilm,_,_,r| .nils,_,_,r| .emp _,_,_,r=>r
 |.rows [],_,_,r=>by obtain⟨base,cap,h1,h2,_⟩:=r;exact⟨base,cap,h1,h2,.inl rfl⟩
 |.own _ _,_,_,r| .ptr _ _,_,_,r| .mp _,_,_,r=>r
 |.rows (_::_),_,e,_| .lit _,_,e,_| .rptr _ _,_,e,_| .agg _,_,e,_| .tup _,_,e,_| .fn _ _,_,e,_| .bnd _ _,_,e,_| .iface _ _,_,e,_| .optr _ _ _ _,_,e,_| .tptr _ _ _,_,e,_| .town _ _ _,_,e,_| .vw _ _ _ _,_,e,_| .any,_,e,_=>by simp[Jl]at e
theorem Zkc:∀(l:List AV) (vs:List Value),ZeT l=true→RepL (⟨m,o1,s1⟩:Mp Bs) nb w' l vs→RepL (⟨m,o2,s2⟩:Mp Bs) nb w' l vs
 |[],_,_,r=>r
 |a::l,_,e,r=>by simp only[ZeT,VA]at e;obtain⟨v,d,k,q,A⟩:=r;exact⟨v,d,k,Zj3 a v e.1 q,Zkc l d e.2 A⟩
theorem ZjV:∀{l:List AV} {a:AV},ZeT l=true→a∈l→Jl a=true
 |b::l,a,e,d=>by
  simp only[ZeT,VA]at e;rcases Vn.1 d with rfl|d
  ·exact e.1
  exact ZjV e.2 d
theorem Zkp:∀{l:List (List AV)} {a:List AV},ZmV l=true→a∈l→ZeT a=true
 |b::l,a,e,d=>by
  simp only[ZmV,VA]at e;rcases Vn.1 d with rfl|d
  ·exact e.1
  exact Zkp e.2 d
theorem ZkL:∀{l:Za} {a:Blk},Zin l=true→a∈l→Zon a=true
 |b::l,a,e,d=>by
  simp only[Zin,VA]at e;rcases Vn.1 d with rfl|d
  ·exact e.1
  exact ZkL e.2 d
mutual
theorem ZkJ:∀(a:AV) (v:Value),Rep (⟨m,o1,s1⟩:Mp Bs) nb w' a v→Rep (⟨m,o2,s2⟩:Mp Bs) nb w' (Zhz a) v
 |.int _ _,_,r| .bool _,_,r| .str _,_,r| .nilp,_,r| .nilf,_,r| .nili,_,r| .nilm,_,r| .nils,_,r| .emp _,_,r=>r
 |.rows [],_,r=>by obtain⟨base,cap,h1,h2,_⟩:=r;exact⟨base,cap,h1,h2,.inl rfl⟩
 |.own _ _,_,r| .ptr _ _,_,r| .mp _,_,r=>r
 |.rows (_::_),_,_| .lit _,_,_| .rptr _ _,_,_=>trivial
 |.agg cs,_,r=>by obtain⟨vs,d,r⟩:=r;exact⟨vs,d,Zf4 cs vs r⟩
 |.tup cs,_,r=>by obtain⟨vs,d,r⟩:=r;exact⟨vs,d,Zf4 cs vs r⟩
 |.fn _ _,_,_| .bnd _ _,_,_| .iface _ _,_,_| .optr _ _ _ _,_,_| .tptr _ _ _,_,_| .town _ _ _,_,_| .vw _ _ _ _,_,_| .any,_,_=>trivial
theorem Zf4:∀(l:List AV) (vs:List Value),RepL (⟨m,o1,s1⟩:Mp Bs) nb w' l vs→RepL (⟨m,o2,s2⟩:Mp Bs) nb w' (ZnC l) vs
 |[],_,r=>r
 |a::l,_,r=>by obtain⟨v,d,k,q,A⟩:=r;exact⟨v,d,k,ZkJ a v q,Zf4 l d A⟩
end
theorem Zsu:∀(b:Blk),Zon b=true→Zed (⟨m,o1,s1⟩:Mp Bs) nb w' l b→Zed (⟨m,o2,s2⟩:Mp Bs) nb w' l b
 |.cells cs,e,r=>by obtain⟨b,vs,T,h1,h2,h3,q⟩:=r;exact⟨b,vs,T,h1,h2,h3,Zkc cs vs e q⟩
 |.rows z rs wr,e,r=>by
  rcases r with r|⟨b,vs,T,h1,h2,h3,q⟩
  ·exact .inl r
  refine .inr ⟨b,vs,T,h1,h2,h3,fun i row d=>?_⟩;obtain⟨A,E,G⟩:=q i row d;refine⟨A,E,fun c a D=>?_⟩;obtain⟨v,H,J⟩:=G c a D;exact⟨v,H,Zj3 a v (ZjV (Zkp e (Ve d)) (Ve D)) J⟩
 |.hole,_,r=>r
 |.map [],_,r=>by obtain⟨b,ms,k,h1,h2,h3,B,q,A⟩:=r;exact⟨b,ms,k,h1,h2,h3,B,q,A⟩
 |.map (_::_),e,_=>by simp[Zon]at e
theorem Zjy{f:FuncId}{pure:List AV}{h:Za}{x:AV}(B:Yr Bs P f pure [] r nb)(hs:Zy n h args=some pure)(e:Wa h (some (r,nb))=some (x,h')):Yr Bs P f args h x h':=by
 intro μ w vs hr ha;unfold Wa at e;simp only at e;split at e
 rotate_left
 ·simp at e
 rename_i O;simp only[Z4,Va,Vp]at e;obtain⟨rfl,rfl⟩:=e;have Q:RepL (⟨fun _=>none,NoM,μ.still⟩:Mp Bs) [] w pure vs:=RepL.pure _ _ (PRepL.keep (fun b o v B _=>⟨B,fun q=>by
  rcases q with q|⟨l,k,d,_⟩
  ·exact q
  simp at d⟩) _ _ (Zgz hr n args pure vs hs ha))
 have S:Rel (⟨fun _=>none,NoM,μ.still⟩:Mp Bs) [] w:=⟨fun _ _ _ d=>by simp at d,fun _ _ d=>by simp at d,fun _ _ _ d=>by simp at d,fun _ _ q=>q.elim,fun b D=>⟨(hr.still b D).1,fun l d=>by simp at d⟩,hr.base⟩;refine(B _ w vs S Q).mono ?_;rintro e w' ⟨v,⟨E,o2,s2⟩,rfl,H,A,U⟩;have new:∀l b,l<nb.length→E l=some b→w.heap.size≤b:=fun l b d G=>by
  rcases Sc b w.heap.size with D|D
  ·exact absurd G ((A.outside b D fun l d=>by simp at d).2 l d)
  exact D
 have es:s2=μ.still:=A.still;have old:∀b o,(X3 μ h []).out b o→b<w.heap.size:=(part_nil.rel hr).old;have W:Rel (⟨E,(X3 μ h []).out,μ.still⟩:Mp Bs) nb w':=by
  refine⟨H.inj,fun l k d=>Zsu k (ZkL O (Ve d)) (H.blk l k d),fun l b o d G J=>?_,fun b o J=>Ur (old b o J) A.size,?_,?_⟩
  ·have h1:=new l b d G;have h2:=old b o J;omega
  ·have:=H.still;rw[es]at this;exact this
  have:=H.base;rw[es]at this;exact this
 have N:Ext (X3 μ h []) [] w (⟨E,(X3 μ h []).out,μ.still⟩:Mp Bs) nb w':=by
  refine⟨rfl,rfl,A.os,A.tape,A.output,A.size,UB _,fun b o v B G=>?_,A.outside,fun _ _ d=>by simp at d,fun _ _ _ _ d=>by simp at d,fun _ _ d=>by simp at d,A.sizes⟩;obtain⟨h1,h2⟩:=A.keep b o v B (fun q=>by
   rcases q with q|⟨l,k,d,_⟩
   ·exact q
   simp at d)
  refine⟨h1,fun q=>?_⟩;rcases q with q|q
  ·exact G (.inl q)
  exact h2 (.inr q)
 have X:Rep (⟨E,(X3 μ h []).out,μ.still⟩:Mp Bs) nb w' (Zhz r) v:=ZkJ r v U;have L:=Zb6 (h2:=nb) (part_nil (h:=h)) (UB _);exact⟨v,_,rfl,L.rel part_nil hr W N,L.ext part_nil N,L.rep (μ2:=⟨E,(X3 μ h []).out,μ.still⟩) part_nil rfl X⟩
end
section
variable{Bs:World→Prop}
variable{P:Program}{μ:Mp Bs}{h:Za}{w:World}{a:Act}{o:Oper}{x:AV}
theorem ZeJ(O:Ww Bs P F){nl:Bool}{bw:Nat}{N:List AV}{Q:List Value}(E:Rel μ h w)(A:RepL μ h w N Q)
  (B:Go.Proofs.Enters P g→(execOp a.eval o).run P w=.ok (.enter g Q.toArray) w) (e:Wi bw F g h N (Zdy nl h N)=some (x,h')):Wb P o a μ h w x h':=by
 unfold Wi at e;split at e
 ·rename_i pure G;unfold Wt at e;split at e
  ·rename_i r d;simp only[Va,Vp]at e;obtain⟨rfl,rfl⟩:=e;obtain⟨D,k⟩:=O _ _ _ _ _ d;exact QW (B D) k E.empty (Zj7 E G A) fun v μ2 w' h2 h3 S =>
    ⟨μ,E.from_empty h3,h3.from_empty.1,Rep.from_empty h3 S⟩
  ·rename_i n b d;split at e
   rotate_left
   ·simp at e
   rename_i X;simp only[Va,Vp]at e;obtain⟨rfl,rfl⟩:=e;obtain⟨D,k⟩:=O _ _ _ _ _ d;refine QW (B D) k (part_nil.rel E) (RepL.pure _ _ (PRepL.keep (fun b o v Y Z=>⟨Y,fun hx=>Z (part_nil.mut.1 hx)⟩) _ _ (ZdR E G A)))
    fun v μ2 w' q2 q3 q4=>?_
   exact⟨_,(joins_new b X).rel part_nil E q2 q3,(joins_new b X).ext part_nil q3,(joins_new b X).rep part_nil q3.out q4⟩
  ·rename_i r b0 a0 _ d;simp only[Z4,Va,Vp]at e;obtain⟨rfl,rfl⟩:=e;obtain⟨D,k⟩:=O _ _ _ _ _ d;refine QW (B D) k (part_nil.rel E) (RepL.pure _ _ (PRepL.keep (fun b o v Y Z=>⟨Y,fun hx=>Z (part_nil.mut.1 hx)⟩) _ _ (ZdR E G A)))
    fun v μ2 w' q2 q3 q4=>?_
   have hj:=Zb6 (h2:=b0::a0) (part_nil (h:=h)) (UB _);exact⟨_,hj.rel part_nil E q2 q3,hj.ext part_nil q3,hj.rep part_nil q3.out q4⟩
  simp at e
 have key:W4 F g h (Zy 8 h N)=some (x,h')→Wb P o a μ h w x h':=fun e=>by
  unfold W4 at e;split at e
  ·rename_i pure hs;cases d:F (.call g pure [])with
   |none=>rw[d]at e;simp[Wa]at e
   |some q =>
    obtain⟨r,nb⟩:=q;rw[d]at e;obtain⟨D,k⟩:=O _ _ _ _ _ d;exact QW (B D) (Zjy k hs e) E A fun v μ2 w' q2 q3 q4=>⟨μ2,q2,q3,q4⟩
  simp at e
 split at e
 ·exact key e
 ·obtain⟨D,k⟩:=O _ _ _ _ _ e;exact QW (B D) k E A fun v μ2 w' q2 q3 q4=>⟨μ2,q2,q3,q4⟩
 split at e
 ·rename_i args U;unfold Z0 at e;split at e
  ·rename_i hu;split at e
   ·rename_i hs H;split at e
    ·rename_i k;unfold WZ at e;split at e
     ·rename_i r h2 d;split at e
      ·rename_i J;simp only[Va,Vp]at e;obtain⟨rfl,rfl⟩:=e;obtain⟨h1,S⟩:=Zeb h _ _ _ H;have G:IsPart h (Y7 h 100 (Zg args) []) hs:=⟨Wc _ _ _ _ (by simp),h1,S,YI k⟩;refine Zah O E B G (G.rep (fun i hi=>(Wq _ _).1 (YI hu _ (UQ hi))) (Jr E _ _ _ U A)) d (ZiE G J)
      have L:(Y7 h 100 (Zg args) []).length≤h2.length→Z4 h (Y7 h 100 (Zg args) []) r h2=some (x,h')→Wb P o a μ h w x h':=fun W e=>by simp only[Z4,Va,Vp]at e;obtain⟨rfl,rfl⟩:=e;obtain⟨h1,S⟩:=Zeb h _ _ _ H;have G:IsPart h (Y7 h 100 (Zg args) []) hs:=⟨Wc _ _ _ _ (by simp),h1,S,YI k⟩;exact Zah O E B G (G.rep (fun i hi=>(Wq _ _).1 (YI hu _ (UQ hi))) (Jr E _ _ _ U A)) d (Zb6 G W)
      split at e
      ·rename_i J;split at e
       ·rename_i z rs wr X;split at e
        rotate_left
        ·exact L (by omega) e
        rename_i a1;simp only[Va,Vp]at e;obtain⟨rfl,rfl⟩:=e;obtain⟨h1,S⟩:=Zeb h _ _ _ H;have G:IsPart h (Y7 h 100 (Zg args) []) hs:=⟨Wc _ _ _ _ (by simp),h1,S,YI k⟩;refine Zah O E B G (G.rep (fun i hi=>(Wq _ _).1 (YI hu _ (UQ hi))) (Jr E _ _ _ U A)) d (Zjk G J X (by show Blk.rows z (XN _ rs) wr=_;rw[joins_new.loclessR _ rs a1]))
       exact L (by omega) e
      split at e
      ·rename_i W;exact L W e
      simp at e
     simp at e
    simp at e
   simp at e
  simp at e
 simp at e
theorem ZlN(L:Ww Bs P F){B:List Value}(N:ls.Nodup)(O:Rel μ h w)(H:RepL μ h w args B)
  (d:Go.Proofs.Enters P g→(execOp a.eval o).run P w=.ok (.enter g B.toArray) w) (e:Z0 F g h ls args=some (x,h')):Wb P o a μ h w x h':=by
 unfold Z0 at e;split at e
 ·rename_i U;split at e
  ·rename_i hs J;split at e
   ·rename_i Q;obtain⟨h1,W⟩:=Zeb h _ _ _ J;have D:IsPart h ls hs:=⟨N,h1,W,YI Q⟩;have k:=D.rep (fun i hi=>(Wq _ _).1 (YI U _ (UQ hi))) H;unfold WZ at e;split at e
    ·rename_i r h2 E;split at e
     ·rename_i q;simp only[Va,Vp]at e;obtain⟨rfl,rfl⟩:=e;exact Zah L O d D k E (ZiE D q)
     have A:ls.length≤h2.length→Z4 h ls r h2=some (x,h')→Wb P o a μ h w x h':=fun G e=>by simp only[Z4,Va,Vp]at e;obtain⟨rfl,rfl⟩:=e;exact Zah L O d D k E (Zb6 D G)
     split at e
     ·rename_i q;split at e
      ·rename_i z rs wr X;split at e
       rotate_left
       ·exact A (by omega) e
       rename_i S;simp only[Va,Vp]at e;obtain⟨rfl,rfl⟩:=e;exact Zah L O d D k E (Zjk D q X (by show Blk.rows z (XN _ rs) wr=_;rw[joins_new.loclessR _ rs S]))
      exact A (by omega) e
     split at e
     ·rename_i G;exact A G e
     simp at e
    simp at e
   simp at e
  simp at e
 simp at e
theorem Znv(B:Ww Bs P F){ev:Operand→AV}(D:Rel μ h w)(q:XF μ h w ev a.eval)(e:QJ F n ev h o.op=some (x,h')):Wb P o a μ h w x h':=by
 unfold QJ at e;split at e
 ·rename_i c E;split at e
  ·rename_i f G;split at e
   ·rename_i g A H;obtain⟨vs,J,d⟩:=ZlR q H;exact ZlN B PO D ((Jh q c.args.toList).append d) (fun k=>ZhJ E G J k) e
   simp at e
  simp at e
 simp at e
theorem ZmP{nl:FuncId→Bool×Nat}(E:Ww Bs P F){ev:Operand→AV}(G:Rel μ h w)(q:XF μ h w ev a.eval)(H:o.op=.call c)(J:c.callee=.value f)
  (e:ZU nl F h (evs ev c.args.toList) (ev f)=some (x,h')):Wb P o a μ h w x h':=by
 unfold ZU at e;split at e
 ·rename_i g L A;obtain⟨vs,B,d⟩:=ZlR q A;exact ZeJ E G ((Jh q c.args.toList).append d) (fun k=>ZhJ H J B k) e
 ·rename_i g fs A;obtain⟨vs,B,D⟩:=ZuS q A;exact ZeJ E G (D.append (Jh q c.args.toList)) (fun k=>Zox H J B k) e
 simp at e
theorem ZgS(G:Ww Bs C.P F){ev:Operand→AV}(q:Rel μ h w)(A:XF μ h w ev a.eval)(e:Z8 C F ev h o.op=some (x,h')):Wb C.P o a μ h w x h':=by
 have quiet:val h (ZP C F ev h o.op)=some (x,h')→Wb C.P o a μ h w x h':=fun e=>by
  cases E:ZP C F ev h o.op with
  |none=>simp[E,val]at e
  |some v =>
   simp only[E,val,Va,Vp]at e;obtain⟨rfl,rfl⟩:=e;exact Zc9 G q A E
 cases d:o.op with
 |alloc t =>
  simp only[Z8,d]at e;exact Zmz q d e
 |box t y =>
  simp only[Z8,d]at e;exact ZtW q A d e
 |store t y z =>
  simp only[Z8,d]at e;cases hs:ZfU C.P t (ev y) (ev z) h with
  |none=>simp[hs,Zaz]at e
  |some h1 =>
   simp only[hs,Zaz,Va,Vp]at e;obtain⟨rfl,rfl⟩:=e;exact ZoU q A d hs
 |makeSlice t n m =>
  simp only[Z8,d]at e;exact Zi3 q A d e
 |convert t u y =>
  simp only[Z8,d]at e;exact Zmd q A d e
 |buildSlice t n B =>
  simp only[Z8,d]at e;cases E:Zdt (C.wrB t) (ZP C F ev h (.buildSlice t n B))with
  |some v =>
   simp only[E,ZaX,Va,Vp]at e;obtain⟨rfl,rfl⟩:=e;have H:ZP C F ev h (.buildSlice t n B)=some v:=by
    unfold Zdt at E;split at E
    ·simp at E
    exact E
   exact Zc9 G q A (by rw[d];exact H)
  |none =>
   simp only[E,ZaX]at e;exact Zn7 q A d e
 |makeMap t r =>
  cases r with
  |none =>
   simp only[Z8,d,Va,Vp]at e;obtain⟨rfl,rfl⟩:=e;exact ZlH q d
  |some _=>simp[Z8,d,ZP,val]at e
 |mapUpdate t m k y =>
  simp only[Z8,d]at e;cases hs:Zeo C.P t h (ev m) (ev k) (ev y)with
  |none=>simp[hs,Zaz]at e
  |some h1 =>
   simp only[hs,Zaz,Va,Vp]at e;obtain⟨rfl,rfl⟩:=e;exact ZnO q A (.inl d) hs
 |insert t m k y =>
  simp only[Z8,d]at e;cases e
 |call c =>
  simp only[Z8,d,ZbK]at e;split at e
  ·rename_i f D;exact ZmP G q A d D e
  ·rename_i D;exact Zn4 q A d D e
  ·rename_i D;exact ZpW q A d D e
  ·rename_i D;exact ZtO q A d D e
  ·rename_i D;exact ZrM q A d D e
  ·rename_i b J _ _ _ D;refine quiet ?_;simp only[d,ZP,J7,D];exact e
  simp at e
 |_ =>
  refine quiet ?_;simpa only[Z8,d]using e
end
end Go.Ab
