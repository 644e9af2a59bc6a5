/- What is proved: contracts of the program's and the reference's functions in the evaluator, and plain laws on them. Conditions: as each states. -/
import Derived.Test.YtddclolilenlkaaGreatDoorMX2
set_option linter.unusedSimpArgs false
set_option linter.unusedSectionVars false
set_option linter.unusedVariables false
set_option maxRecDepth 100000
namespace Go.Ab
open Go Go.Proofs
variable{ops:Array Oper}{t:Array Value}{fr:Fr}{b c f i j k l m n p q s z:Nat}{r x:AV}{h':Za}{a:Act}{nl wr:Bool}{C:Cfg}{F:Tk→Res}{g:Nat→AV}{T ls:List Nat}{args row:List AV}{rs rs' rs2:List (List AV)}{o oi oj:Oper}{v:Value}{P:Program}{w:World}{L:Array Bool}{fn:Func}{cs:List Frame}{ks:List It}{α β:Type}
section
variable{Bs:World→Prop}
variable{P:Program}{μ μ':Mp Bs}{h h':Za}{w w':World}
def OpsFit(n:Nat)(ops:Array Oper):Prop:=∀(i:Nat) (o:Oper),ops[i]?=some o→∀d,o.dst=some d→d<n
theorem We(a:Act)(d:Option Nat)(v:Value):(a.put d v).tmps.size=a.tmps.size:=by cases d<;>simp[Act.put]
theorem ZaS(a:Act)(d:Option Nat)(v:Value):(a.put d v).defers=a.defers:=by cases d<;>rfl
theorem FrRel.ext(e:Ext μ h w μ' h' w'){fr:Fr}{t:Array Value}(r:FrRel μ h w fr t):FrRel μ' h' w' fr t:=fun i=>Rep.ext e _ _ (r i)
theorem FrRel.put{fr:Fr}{a:Act}{d:Option Nat}{x:AV}{v:Value}(r:FrRel μ h w fr a.tmps)(u:∀i,d=some i→i<a.tmps.size)(A:Rep μ h w x v):FrRel μ h w (Go.Ab.put fr d x) (a.put d v).tmps:=by
 cases d with
 |none=>exact r
 |some i =>
  intro j;have hi:=u i rfl;by_cases e:i=j
  ·subst e;simp only[Go.Ab.put,get,V7,Act.put];simpa[Array.getD,hi]using A
  simp only[Go.Ab.put,get,Vm e,Act.put];have:(a.tmps.setIfInBounds i v).getD j undef=a.tmps.getD j undef:=by simp only[UN];rw[UO e]
  rw[this];exact r j
theorem Zka:Rep μ h w (.tup []) undef:=⟨[],rfl,rfl⟩
theorem Zmh{b:Bool}(r:FrRel μ h w fr t)(e:ZdW fr (Wu ops.toList j)=.bool b):yielded ops t j=some b:=by
 unfold yielded;unfold Wu at e;simp only[U4]at e;cases D:ops[j]? with
 |none=>simp[D,ZdW]at e
 |some o =>
  simp only[D]at e;cases u:o.dst with
  |none=>simp[u,ZdW]at e
  |some d =>
   simp only[u,ZdW]at e;have E:=r d;rw[e]at E;have h2:t.getD d undef=.bool b:=E;rw[UN]at h2;cases A:t[d]? with
   |none=>simp[A,undef]at h2
   |some v =>
    simp only[A,VP]at h2;subst h2;simp[u,A]
theorem Zlz(r:FrRel μ h w fr t)(e:ZdW fr (Wu ops.toList j)=.tup []):yielded ops t j=none:=by
 unfold yielded;unfold Wu at e;simp only[U4]at e;cases G:ops[j]? with
 |none=>simp
 |some o =>
  simp only[G]at e;cases u:o.dst with
  |none=>simp[u]
  |some d =>
   simp only[u,ZdW]at e;have E:=r d;rw[e]at E;obtain⟨vs,h2,h3⟩:=E;have A:vs=[]:=h3;subst A;rw[UN]at h2;cases D:t[d]? with
   |none=>simp[u,D]
   |some v =>
    simp only[D,VP]at h2;subst h2;simp[u,D]
def ZAV(μ:Mp Bs)(h:Za)(w:World)(a:Act)(fr':Fr)(h':Za)(Q:Exit→Act→World→Prop):Prop :=
 ∀a' μ' w',Rel μ' h' w'→Ext μ h w μ' h' w'→FrRel μ' h' w' fr' a'.tmps→a'.tmps.size=a.tmps.size→a'.defers=a.defers→Q .normal a' w'
theorem ZpZ(h:n<m):List.range' n (m-n)=n::List.range' (n+1) (m-(n+1)):=by
 have:m-n=(m-(n+1))+1:=by omega
 rw[this,Sl]
theorem ZdP{C:Cfg}{F:Tk→Res}(Y:Ww Bs C.P F){ops:Array Oper}{Q:Exit→Act→World→Prop}:∀(rest:List Oper) (n:Nat) (fr d:Fr) (h h':Za) (a:Act) (μ:Mp Bs) (w:World),
  ops.toList.drop n=rest→OpsFit a.tmps.size ops→Rel μ h w→FrRel μ h w fr a.tmps→J2 C F ops.toList rest fr h=some (d,h')→ZAV μ h w a d h' Q→wpOps C.P ops Q (List.range' n (ops.size-n)) a w
 |[],n,fr,d,h,h',a,μ,w,J,_,S,D,e,U=>by
  have W:ops.size≤n:=by have:=congrArg List.length J;simp at this;omega
  have:ops.size-n=0:=by omega
  rw[this];simp only[List.range'_zero,wpOps];simp only[J2,Va,Vp]at e;obtain⟨rfl,rfl⟩:=e;exact U a μ w S (Ext.refl _ _ _) D rfl rfl
 |o::rest,n,fr,d,h,h',a,μ,w,J,A,S,D,e,U=>by
  have Z:n<ops.size:=by have:=congrArg List.length J;simp at this;omega
  have ho:ops[n]?=some o:=by have:=congrArg (fun l=>l[0]?) J;simp only[Uc,Ug,Vt,U4]at this;exact this
  have M:ops.toList.drop (n+1)=rest:=by have:=congrArg List.tail J;simpa[UY]using this
  have fit:∀i,o.dst=some i→i<a.tmps.size:=A n o ho;rw[ZpZ Z];simp only[wpOps,ho];have run:∀{v:AV} {H:Za},Z8 C F (ev fr) h o.op=some (v,H)→J2 C F ops.toList rest (Go.Ab.put fr o.dst v) H=some (d,h')→o.wp C.P a w (wpOps C.P ops Q (List.range' (n+1) (ops.size-(n+1)))) Q:=by intro v H hs W;refine ZgS Y S (Zul D) hs _ _ ?_;intro u μ' w' h2 h3 h4;refine ZdP Y rest (n+1) _ d H h' (a.put o.dst u) μ' w' M (by rw[We];exact A) h2 ((D.ext h3).put fit h4) W ?_;intro a' μ2 w2 q1 q2 q3 q4 q5;exact U a' μ2 w2 q1 (h3.trans q2) q3 (by rw[q4,We]) (by rw[q5,ZaS])
  have skip:J2 C F ops.toList rest (Go.Ab.put fr o.dst (.tup [])) h=some (d,h')→wpOps C.P ops Q (List.range' (n+1) (ops.size-(n+1))) (a.put o.dst undef) w:=by intro W;refine ZdP Y rest (n+1) _ d h h' (a.put o.dst undef) μ w M (by rw[We];exact A) S (D.put fit Zka) W ?_;intro a' μ2 w2 q1 q2 q3 q4 q5;exact U a' μ2 w2 q1 q2 q3 (by rw[q4,We]) (by rw[q5,ZaS])
  simp only[J2]at e;split at e
  ·rename_i O;have E:Region.wanted o (yielded ops a.tmps)=true:=by simp[Region.wanted,O]
   simp only[E,V7];split at e
   ·rename_i v H hs;exact .inl (run hs e)
   simp at e
  rename_i j a0 O;split at e
  ·rename_i b hb;have X:=Zmh D hb;split at e
   ·rename_i G;subst G;have E:Region.wanted o (yielded ops a.tmps)=true:=by simp[Region.wanted,O,X]
    simp only[E,V7];split at e
    ·rename_i v H hs;exact .inl (run hs e)
    simp at e
   rename_i G;have E:Region.wanted o (yielded ops a.tmps)=false:=by simp[Region.wanted,O,X,G]
   simp only[E,V6,UA];exact skip e
  ·rename_i hb;have X:=Zlz D hb;have E:Region.wanted o (yielded ops a.tmps)=false:=by simp[Region.wanted,O,X]
   simp only[E,V6,UA];exact skip e
  simp at e
end
section
variable{Bs:World→Prop}
def JK:Op→List Operand
 |.load _ x| .slice _ x _ _ _| .indexAddr _ x _| .lookup _ x _ _=>[x]
 |.buildSlice _ _ ps=>ps.toList.map (·.2)
 |.insert _ _ _ v=>[v]
 |.store _ a _=>[a]
 |.binOp _ _ x y _=>bif Ztt y then[x]else[]
 |.call c=>match c.callee with
  |.value f=>f::c.args.toList
  |_=>[]
 |_=>[]
theorem ZmH{b:Bool}{t:TypeId}{r:Option (AV×Za)}(e:ZiT b t r=some (x,h')):∃d,r=some (d,h'):=by
 cases b with
 |false=>exact⟨x,e⟩
 |true =>
  simp only[ZiT,cond_true]at e;unfold tyP at e;split at e
  ·simp only[Va,Vp]at e;obtain⟨_,rfl⟩:=e;exact⟨_,rfl⟩
  simp at e
theorem ZpC{h:Za}{v:Option AV}(e:Go.Ab.alloc h v=some (x,h')):∃b,h'=h++[b]:=by
 unfold Go.Ab.alloc at e;split at e
 ·split at e
  ·simp only[Va,Vp]at e;exact⟨_,e.2.symm⟩
  simp at e
 simp at e
theorem Zet{A:Option TypeId}{u:Bool}{h:Za}{ys:List (List AV)}{xs x:AV}(e:Jf A u h z b ys xs=some (x,h')):∃d D,Xv u h z b d ys=some (D,h')∧locs d=locs xs:=by
 unfold Jf at e;split at e
 ·rename_i t l n;split at e
  ·refine⟨.own l n,?_⟩;unfold tyO at e;split at e
   ·rename_i l' G h'' E;simp only[Va,Vp]at e;obtain⟨_,rfl⟩:=e;exact⟨_,E,rfl⟩
   simp at e
  simp at e
 exact⟨xs,x,e,rfl⟩
end
section
variable{Bs:World→Prop}
variable{P:Program}{h h':Za}
mutual
theorem ZbS:∀a:AV,(∀l,l∈locs a→h[l]?=h'[l]?)→ZI h a=ZI h' a
 |.own l n,e=>by simp only[ZI];rw[e l (by simp[locs])]
 |.agg cs,e| .tup cs,e| .fn _ cs,e| .bnd _ cs,e=>by simp only[ZI];rw[XV cs e]
 |.iface _ a,e=>by simp only[ZI];rw[ZbS a e]
 |.ptr _ _,_| .optr _ _ _ _,_| .mp _,_| .tptr _ _ _,_| .town _ _ _,_| .vw _ _ _ _,_| .nils,_| .lit _,_| .int _ _,_| .bool _,_| .str _,_| .nilp,_| .nilf,_| .nili,_| .emp _,_| .nilm,_| .rows _,_| .rptr _ _,_| .any,_=>rfl
theorem XV:∀l:List AV,(∀i,i∈Zg l→h[i]?=h'[i]?)→ZE h l=ZE h' l
 |[],_=>rfl
 |a::r,e=>by simp only[ZE];rw[ZbS a (fun l d=>e l (by simp[Zg,d])),XV r (fun l d=>e l (by simp[Zg,d]))]
end
mutual
theorem Zbd:∀a:AV,(∀l,l∈locs a→h[l]?=h'[l]?)→Z2 h a=Z2 h' a
 |.own l n,e=>by simp only[Z2];rw[e l (by simp[locs])]
 |.agg cs,e| .tup cs,e| .fn _ cs,e| .bnd _ cs,e=>by simp only[Z2];rw[X4 cs e]
 |.iface _ a,e=>by simp only[Z2];rw[Zbd a e]
 |.ptr _ _,_| .optr _ _ _ _,_| .mp _,_| .tptr _ _ _,_| .town _ _ _,_| .vw _ _ _ _,_| .nils,_| .lit _,_| .int _ _,_| .bool _,_| .str _,_| .nilp,_| .nilf,_| .nili,_| .emp _,_| .nilm,_| .rows _,_| .rptr _ _,_| .any,_=>rfl
theorem X4:∀l:List AV,(∀i,i∈Zg l→h[i]?=h'[i]?)→Xm h l=Xm h' l
 |[],_=>rfl
 |a::r,e=>by simp only[Xm];rw[Zbd a (fun l d=>e l (by simp[Zg,d])),X4 r (fun l d=>e l (by simp[Zg,d]))]
end
theorem ZsR{kn:Bool}{a:AV}(e:∀l,l∈locs a→h[l]?=h'[l]?):pur kn h a=pur kn h' a:=by
 cases kn with
 |true=>exact Zbd a e
 |false=>exact ZbS a e
theorem Zd8{a:List AV}(e:∀l,l∈Zg a→h[l]?=h'[l]?):Zdy nl h a=Zdy nl h' a:=by
 cases nl with
 |true=>exact X4 a e
 |false=>exact XV a e
theorem Znj{t:TypeId}{a:AV}(e:∀l,l∈locs a→h[l]?=h'[l]?):ZgM P t a h=ZgM P t a h':=by
 cases a<;>simp only[ZgM]
 ·rw[e _ (by simp[locs])]
 rw[e _ (by simp[locs])]
theorem Zl7{lo hi:Option AV}{k:TK}(e:∀l,l∈locs x→h[l]?=h'[l]?):ZbZ h lo hi x k=ZbZ h' lo hi x k:=by
 cases k<;>simp only[ZbZ];cases x<;>simp only[ZiX]
 ·rw[e _ (by simp[locs])]
 rw[e _ (by simp[locs])]
theorem ZlX{lo hi d:AV}{k:TK}(e:∀l,l∈locs x→h[l]?=h'[l]?):Zea h lo hi d k x=Zea h' lo hi d k x:=by cases x<;>simp only[Zea];rw[e _ (by simp[locs])]
theorem Zk9{t:TypeId}{i:AV}(e:∀l,l∈locs x→h[l]?=h'[l]?):Zd2 P t h i x=Zd2 P t h' i x:=by
 cases i<;>simp only[Zd2];cases x<;>simp only
 ·rw[e _ (by simp[locs])]
 rw[e _ (by simp[locs])]
theorem Zg8(e:∀l,l∈locs x→h[l]?=h'[l]?):Qs h x=Qs h' x:=by cases x<;>simp only[Qs];rw[e _ (by simp[locs])]
theorem ZoK{op:BinOp}{t:TypeId}{y:AV}(e:∀l,l∈locs x→h[l]?=h'[l]?):Zis P op t h x y=Zis P op t h' x y:=by cases y<;>simp only[Zis];cases x<;>simp only[ZiM];rw[e _ (by simp[locs])]
theorem Ze8{kn:Bool}{ev:Operand→AV}{z:Nat}:∀(ps:List (Nat×Operand)) (i:Nat),(∀p,p∈ps→∀l,l∈locs (ev p.2)→h[l]?=h'[l]?)→Q3 kn h ev z i ps=Q3 kn h' ev z i ps
 |[],_,_=>rfl
 |(j,x)::r,i,e=>by simp only[Q3];rw[ZsR (e (j,x) (by simp)),Ze8 r (i+1) (fun p d=>e p (by simp[d]))]
theorem ZfR(ev:Operand→AV):∀(xs:List Operand) (l:Nat),l∈Zg (evs ev xs)→∃x,x∈xs∧l∈locs (ev x)
 |[],l,d=>by simp[evs,Zg]at d
 |x::xs,l,d=>by
  simp only[evs,Zg,Vg]at d;rcases d with d|d
  ·exact⟨x,by simp,d⟩
  obtain⟨y,e,h2⟩:=ZfR ev xs l d;exact⟨y,by simp[e],h2⟩
theorem WW(a b:List AV)(l:Nat):l∈Zg (a++b)↔l∈Zg a∨l∈Zg b:=by
 induction a with
 |nil=>simp[Zg]
 |cons x r d=>simp[Zg,d,or_assoc]
theorem Zmx{ev:Operand→AV}(o:Op)(e:∀x,x∈JK o→∀l,l∈locs (ev x)→h[l]?=h'[l]?):ZP C F ev h o=ZP C F ev h' o:=by
 cases o with
 |load t a=>simp only[ZP];exact Znj (e a (by simp[JK]))
 |slice t x lo hi G =>
  cases G with
  |none=>simp only[ZP];exact Zl7 (e x (by simp[JK]))
  |some _ =>
   cases lo<;>cases hi<;>simp only[ZP];exact ZlX (e x (by simp[JK]))
 |indexAddr t x i=>simp only[ZP];exact Zk9 (e x (by simp[JK]))
 |binOp op t x y u =>
  simp only[ZP,Zkd];cases H:Ztt y with
  |false=>rfl
  |true =>
   simp only[cond_true];rw[ZoK (e x (by simp[JK,H]))]
 |lookup t x i ok=>simp only[ZP,ZfG];rw[Zg8 (h:=h) (h':=h') (e x (by simp[JK]))]
 |buildSlice t n ps =>
  simp only[ZP];split
  ·rw[Ze8 ps.toList 0 fun p J=>e p.2 (by simp only[JK,VE];exact⟨p,J,rfl⟩)]
  rfl
 |call c =>
  simp only[ZP,J7];split
  ·rename_i f D;unfold Zch;split
   ·rename_i g E M;rw[Zd8 (h:=h) (h':=h')];intro l d;rw[WW]at d;rcases d with d|d
    ·obtain⟨x,O,h2⟩:=ZfR ev _ _ d;exact e x (by simp only[JK,D];exact VD _ O) l h2
    exact e f (by simp[JK,D]) l (by rw[M];exact d)
   rfl
  ·rfl
  rfl
 |makeFunc f first A=>cases f<;>rfl
 |_=>rfl
mutual
theorem ZfB:∀(a a':AV),ZI h a=some a'→∃b,Z2 h a=some b
 |.own l n,a',e=>⟨a',by simpa only[ZI,Z2]using e⟩
 |.agg cs,a',e=>by
  simp only[ZI]at e;split at e
  ·rename_i d u;obtain⟨b,A⟩:=Wr cs d u;exact⟨.agg b,by simp[Z2,A]⟩
  simp at e
 |.tup cs,a',e=>by
  simp only[ZI]at e;split at e
  ·rename_i d u;obtain⟨b,A⟩:=Wr cs d u;exact⟨.tup b,by simp[Z2,A]⟩
  simp at e
 |.fn f cs,a',e=>by
  simp only[ZI]at e;split at e
  ·rename_i d u;obtain⟨b,A⟩:=Wr cs d u;exact⟨.fn f b,by simp[Z2,A]⟩
  simp at e
 |.bnd f cs,a',e=>by
  simp only[ZI]at e;split at e
  ·rename_i d u;obtain⟨b,A⟩:=Wr cs d u;exact⟨.bnd f b,by simp[Z2,A]⟩
  simp at e
 |.iface t a,a',e=>by
  simp only[ZI]at e;split at e
  ·rename_i D E;obtain⟨b,A⟩:=ZfB a D E;exact⟨.iface t b,by simp[Z2,A]⟩
  simp at e
 |.ptr _ _,_,e| .optr _ _ _ _,_,e| .mp _,_,e| .tptr _ _ _,_,e| .town _ _ _,_,e| .vw _ _ _ _,_,e=>by simp[ZI]at e
 |.nils,_,_| .lit _,_,_| .int _ _,_,_| .bool _,_,_| .str _,_,_| .nilp,_,_| .nilf,_,_| .nili,_,_| .emp _,_,_| .nilm,_,_| .rows _,_,_| .rptr _ _,_,_| .any,_,_=>⟨_,rfl⟩
theorem Wr:∀(l l':List AV),ZE h l=some l'→∃b,Xm h l=some b
 |[],_,_=>⟨_,rfl⟩
 |a::r,l',e=>by
  simp only[ZE]at e;split at e
  ·rename_i d u;split at e
   ·rename_i A D;obtain⟨b,E⟩:=ZfB a d u;obtain⟨c,G⟩:=Wr r A D;exact⟨b::c,by simp[Xm,E,G]⟩
   simp at e
  simp at e
end
theorem ZsT{l:List AV}(e:Zdy nl h l=none):ZE h l=none:=by
 cases nl with
 |false=>exact e
 |true =>
  cases d:ZE h l with
  |none=>rfl
  |some l' =>
   obtain⟨b,u⟩:=Wr l l' d;rw[show Zdy true h l=Xm h l from rfl,u]at e;simp at e
theorem Zgv{M:Nat}(G:M≠2){g:FuncId}{d:List AV}(Q:∀args,ZE h d=none→Qp h d=some args→T=Y7 h 100 (Zg args) [])(e:Wi M F g h d (Zdy nl h d)=some (x,h')):h.length≤h'.length∧∀l,l<h.length→l∉T→h'[l]?=h[l]?:=by
 unfold Wi at e;split at e
 ·rename_i pure O;unfold Wt at e;split at e
  ·simp only[Va,Vp]at e;obtain⟨_,rfl⟩:=e;exact⟨Vw _,fun _ _ _=>rfl⟩
  ·split at e
   ·simp only[Va,Vp]at e;obtain⟨_,rfl⟩:=e;exact⟨by simp,fun l A _=>Vh A⟩
   simp at e
  ·simp only[Z4,Va,Vp]at e;obtain⟨_,rfl⟩:=e;exact⟨by simp[back],fun l A _=>by simp only[back];exact Vh A⟩
  simp at e
 rename_i O;have key:W4 F g h (Zy 8 h d)=some (x,h')→h.length≤h'.length∧∀l,l<h.length→l∉T→h'[l]?=h[l]?:=fun e=>by
  unfold W4 at e;split at e
  ·unfold Wa at e;split at e
   ·split at e
    ·simp only[Z4,Va,Vp]at e;obtain⟨_,rfl⟩:=e;exact⟨by simp[back],fun l A _=>by simp only[back];exact Vh A⟩
    simp at e
   simp at e
  simp at e
 split at e
 ·exact key e
 ·rename_i H;exact absurd H (ZqB G)
 split at e
 ·rename_i args J;have D:=Q args (ZsT O) J;unfold Z0 at e;split at e
  ·split at e
   ·split at e
    ·unfold WZ at e;split at e
     ·split at e
      ·simp only[Va,Vp]at e;obtain⟨_,rfl⟩:=e;refine⟨by rw[Z6];exact Vw _,fun l _ E=>Qa _ _ _ _ _ ?_⟩;rw[←D];exact E
      rename_i S h2 _ _;have u:Z4 h (Y7 h 100 (Zg args) []) S h2=some (x,h')→h.length≤h'.length∧∀l,l<h.length→l∉T→h'[l]?=h[l]?:=fun e=>by simp only[Z4,Va,Vp]at e;obtain⟨_,rfl⟩:=e;refine⟨by simp[Z6],fun l A E=>?_⟩;rw[Vh (by rw[Z6];exact A)];refine Qa _ _ _ _ _ ?_;rw[←D];exact E
      split at e
      ·split at e
       ·split at e
        rotate_left
        ·exact u e
        simp only[Va,Vp]at e;obtain⟨_,rfl⟩:=e;refine⟨by simp[Z6],fun l A E=>?_⟩;rw[Vh (by rw[Z6];exact A)];refine Qa _ _ _ _ _ ?_;rw[←D];exact E
       exact u e
      split at e
      ·exact u e
      simp at e
     simp at e
    simp at e
   simp at e
  simp at e
 simp at e
theorem ZoP{g:FuncId}(e:Z0 F g h ls args=some (x,h')):h.length≤h'.length∧∀l,l<h.length→l∉ls→h'[l]?=h[l]?:=by
 have u:∀h2:Za,h'=back (ZO ls h.length) ls h2 h→h.length≤h'.length∧∀l,l<h.length→l∉ls→h'[l]?=h[l]?:=fun h2 hh=>by subst hh;exact⟨by rw[Z6];exact Vw _,fun l _ A=>Qa _ _ _ _ _ A⟩
 have more:∀h2 h3:Za,h'=back (ZO ls h.length) ls h2 h++h3→h.length≤h'.length∧∀l,l<h.length→l∉ls→h'[l]?=h[l]?:=fun h2 h3 hh=>by subst hh;refine⟨by simp[Z6],fun l E A=>?_⟩;rw[Vh (by rw[Z6];exact E)];exact Qa _ _ _ _ _ A
 unfold Z0 at e;split at e
 ·split at e
  ·split at e
   ·unfold WZ at e;split at e
    ·split at e
     ·simp only[Va,Vp]at e;exact u _ e.2.symm
     have d:∀D h2,Z4 h ls D h2=some (x,h')→h.length≤h'.length∧∀l,l<h.length→l∉ls→h'[l]?=h[l]?:=fun D h2 e=>by simp only[Z4,Va,Vp]at e;exact more _ _ e.2.symm
     split at e
     ·split at e
      ·split at e
       ·simp only[Va,Vp]at e;exact more _ _ e.2.symm
       exact d _ _ e
      exact d _ _ e
     split at e
     ·exact d _ _ e
     simp at e
    simp at e
   simp at e
  simp at e
 simp at e
theorem Zhy{ev:Operand→AV}(o:Op)(e:QJ F n ev h o=some (x,h')):h.length≤h'.length∧∀l,l<h.length→l∉List.range n→h'[l]?=h[l]?:=by
 unfold QJ at e;split at e
 ·split at e
  ·split at e
   ·exact ZoP e
   simp at e
  simp at e
 simp at e
theorem Zh0(S:∀g,(C.nlA g).2≠2){ev:Operand→AV}(o:Op)(e:Z8 C F ev h o=some (x,h')):h.length≤h'.length∧∀l,l<h.length→l∉YA ev h o→h'[l]?=h[l]?:=by
 have quiet:∀{v:Option AV},val h v=some (x,h')→h.length≤h'.length∧∀l,l<h.length→l∉YA ev h o→h'[l]?=h[l]?:=fun{v} ev'=>by
  cases v with
  |none=>simp[val]at ev'
  |some v =>
   simp only[val,Va,Vp]at ev';obtain⟨_,rfl⟩:=ev';exact⟨Vw _,fun _ _ _=>rfl⟩
 have push:∀b:Blk,h'=h++[b]→h.length≤h'.length∧∀l,l<h.length→l∉YA ev h o→h'[l]?=h[l]?:=fun b J=>by subst J;exact⟨by simp,fun l hl _=>Vh hl⟩
 have alo:∀{v:Option AV},Go.Ab.alloc h v=some (x,h')→∃b,h'=h++[b]:=fun{v} ea=>by
  unfold Go.Ab.alloc at ea;split at ea
  ·split at ea
   ·simp only[Va,Vp]at ea;exact⟨_,ea.2.symm⟩
   simp at ea
  simp at ea
 have A:∀(D:Nat) (b:Blk),h'=h.set D b→D∈YA ev h o→h.length≤h'.length∧∀l,l<h.length→l∉YA ev h o→h'[l]?=h[l]?:=fun D b J X=>by subst J;refine⟨by simp,fun l hl hn=>?_⟩;rw[Vc];intro Y;subst Y;exact hn X
 have U:∀{t:TypeId} {m k v:Operand},(∀l,ev m=.mp l→l∈YA ev h o)→Zaz (Zeo C.P t h (ev m) (ev k) (ev v))=some (x,h')→h.length≤h'.length∧∀l,l<h.length→l∉YA ev h o→h'[l]?=h[l]?:=fun{t m k v} X e=>by
  simp only[Zaz]at e;split at e
  ·rename_i Q hs;simp only[Va,Vp]at e;obtain⟨_,rfl⟩:=e;unfold Zeo at hs;split at hs
   ·rename_i D M;split at hs
    ·split at hs
     ·split at hs
      ·simp only[Va]at hs;exact A D _ hs.symm (X D M)
      simp at hs
     simp at hs
    simp at hs
   simp at hs
  simp at e
 cases o with
 |alloc t =>
  simp only[Z8]at e;obtain⟨x0,Y⟩:=ZmH e;obtain⟨b,J⟩:=ZpC Y;exact push b J
 |box t y =>
  simp only[Z8]at e;obtain⟨b,J⟩:=alo e;exact push b J
 |store t p v =>
  simp only[Z8,Zaz]at e;split at e
  ·rename_i Q hs;simp only[Va,Vp]at e;obtain⟨_,rfl⟩:=e;unfold ZfU at hs;split at hs
   ·rename_i D o0 M;split at hs
    ·split at hs
     ·split at hs
      ·simp only[Va]at hs;exact A D _ hs.symm (by simp[YA,M,locs])
      simp at hs
     simp at hs
    simp at hs
   ·rename_i D W i0 o0 M;split at hs
    ·split at hs
     ·split at hs
      ·split at hs
       ·split at hs
        ·simp only[Va]at hs;exact A D _ hs.symm (by simp[YA,M,locs])
        simp at hs
       simp at hs
      simp at hs
     simp at hs
    simp at hs
   simp at hs
  simp at e
 |makeMap t r =>
  cases r with
  |none =>
   simp only[Z8,Va,Vp]at e;exact push _ e.2.symm
  |some _=>simp[Z8,ZP,val]at e
 |buildSlice t n O =>
  simp only[Z8]at e;cases hd:Zdt (C.wrB t) (ZP C F ev h (.buildSlice t n O))with
  |some v =>
   simp only[hd,ZaX]at e;exact quiet (v:=some v) e
  |none =>
   simp only[hd,ZaX]at e;unfold Zbc at e;split at e
   ·unfold ZiL at e;split at e
    ·split at e
     ·simp only[Va,Vp]at e;exact push _ e.2.symm
     simp at e
    simp at e
   simp at e
 |mapUpdate t m k v =>
  simp only[Z8]at e;exact U (fun D M=>by simp[YA,M,locs]) e
 |insert t m k v =>
  simp only[Z8]at e;cases e
 |convert t u y =>
  simp only[Z8]at e;exact quiet e
 |makeSlice t n m =>
  simp only[Z8]at e;unfold Qk at e;split at e
  ·split at e
   ·split at e
    ·split at e
     ·unfold ZlE at e;split at e
      ·split at e
       ·simp only[Va,Vp]at e;exact push _ e.2.symm
       simp at e
      simp at e
     simp at e
    simp at e
   simp at e
  simp at e
 |call c =>
  simp only[Z8,ZbK]at e;split at e
  ·rename_i f G;unfold ZU at e;split at e
   ·rename_i g a1 Z;exact Zgv (S _) (fun args Q h2=>by simp[YA,G,ZN,Z,Q,h2]) e
   ·rename_i g fs Z;exact Zgv (S _) (fun args Q h2=>by simp[YA,G,ZN,Z,Q,h2]) e
   simp at e
  ·rename_i G;unfold Zev at e;split at e
   ·rename_i xs ys H;split at e
    ·split at e
     ·split at e
      ·split at e
       ·split at e
        ·obtain⟨a0,x',e,E⟩:=Zet e;unfold Xv at e;split at e
         ·split at e
          ·simp only[Va,Vp]at e;exact push _ e.2.symm
          simp at e
         ·split at e
          ·simp only[Va,Vp]at e;exact push _ e.2.symm
          split at e
          ·simp only[Va,Vp]at e;obtain⟨_,rfl⟩:=e;exact⟨Vw _,fun _ _ _=>rfl⟩
          simp at e
         ·rename_i D W;split at e
          ·split at e
           ·simp only[Va,Vp]at e;exact A D _ e.2.symm (by simp[YA,G,H,Zg,←E,locs])
           simp at e
          simp at e
         ·rename_i D W m0;split at e
          ·split at e
           ·simp only[Va,Vp]at e;exact A D _ e.2.symm (by simp[YA,G,H,Zg,←E,locs])
           simp at e
          simp at e
         simp at e
        simp at e
       simp at e
      simp at e
     ·split at e
      ·unfold Zhn at e;split at e
       ·split at e
        ·obtain⟨a0,x',e,E⟩:=Zet e;unfold Xv at e;split at e
         ·split at e
          ·simp only[Va,Vp]at e;exact push _ e.2.symm
          simp at e
         ·split at e
          ·simp only[Va,Vp]at e;exact push _ e.2.symm
          split at e
          ·simp only[Va,Vp]at e;obtain⟨_,rfl⟩:=e;exact⟨Vw _,fun _ _ _=>rfl⟩
          simp at e
         ·rename_i D W;split at e
          ·split at e
           ·simp only[Va,Vp]at e;exact A D _ e.2.symm (by simp[YA,G,H,Zg,←E,locs])
           simp at e
          simp at e
         ·rename_i D W m0;split at e
          ·split at e
           ·simp only[Va,Vp]at e;exact A D _ e.2.symm (by simp[YA,G,H,Zg,←E,locs])
           simp at e
          simp at e
         simp at e
        simp at e
       simp at e
      simp at e
     ·split at e
      ·split at e
       ·cases e
       simp at e
      simp at e
     simp at e
    simp at e
   simp at e
  ·rename_i G;unfold Zaz at e;split at e
   ·rename_i Q d;simp only[Va,Vp]at e;obtain⟨_,rfl⟩:=e;unfold Zi2 at d;split at d
    ·rename_i y hy;split at d
     ·split at d
      ·split at d
       ·unfold Zes at d;split at d
        ·rename_i D _ _ _;split at d
         ·split at d
          ·simp only[Va]at d;exact A D _ d.symm (by simp[YA,G,hy,Zg,locs])
          simp at d
         simp at d
        simp at d
       simp at d
      simp at d
     simp at d
    simp at d
   simp at e
  ·exact quiet e
  ·rename_i G;cases e
  ·exact quiet e
  simp at e
 |_=>exact quiet (by simpa only[Z8]using e)
end
section
variable{Bs:World→Prop}
variable{P:Program}{h h':Za}{ev ev':Operand→AV}
theorem QZ:∀(l:List Operand),(∀x,x∈l→ev x=ev' x)→evs ev l=evs ev' l
 |[],_=>rfl
 |x::r,e=>by simp only[evs];rw[e x (by simp),QZ r (fun y d=>e y (by simp[d]))]
theorem ZkH(x:Option Operand)(e:∀y,x=some y→ev y=ev' y):evo ev x=evo ev' x:=by
 cases x with
 |none=>rfl
 |some y=>simp only[evo];rw[e y rfl]
theorem Zfj{kn:Bool}{z:Nat}:∀(ps:List (Nat×Operand)) (i:Nat),(∀p,p∈ps→ev p.2=ev' p.2)→Q3 kn h ev z i ps=Q3 kn h ev' z i ps
 |[],_,_=>rfl
 |(j,x)::r,i,e=>by simp only[Q3];rw[e (j,x) (by simp),Zfj r (i+1) (fun p d=>e p (by simp[d]))]
theorem ZeM{d:Nat→Option (Nat×Nat)}:∀(ps:List (Nat×Operand)) (cs:List AV),(∀p,p∈ps→ev p.2=ev' p.2)→Zaq d ev cs ps=Zaq d ev' cs ps
 |[],_,_=>rfl
 |(j,x)::r,cs,e=>by have u:ev x=ev' x:=e (j,x) (by simp);have A:∀cs,Zaq d ev cs r=Zaq d ev' cs r:=fun cs=>ZeM r cs (fun p D=>e p (by simp[D]));simp only[Zaq,u,A]
theorem Zl9{p:Option Plc}{z:Option AV}(ps:List (Nat×Operand))(e:∀p,p∈ps→ev p.2=ev' p.2):Zeg ev ps p z=Zeg ev' ps p z:=by
 unfold Zeg;split
 ·exact ZeM _ _ e
 rfl
theorem Zg1(o:Op)(e:∀x,x∈o.operands→ev x=ev' x):ZP C F ev h o=ZP C F ev' h o:=by
 cases o with
 |build t ps =>
  simp only[ZP];exact Zl9 _ fun p D=>e p.2 (by simp only[Op.operands];simpa using⟨p.1,by simpa using D⟩)
 |buildSlice t n ps =>
  simp only[ZP];split
  ·rw[Zfj ps.toList 0 fun p D=>e p.2 (by simp only[Op.operands];simpa using⟨p.1,by simpa using D⟩)]
  rfl
 |makeFunc f first d =>
  cases f with
  |func g =>
   simp only[ZP];rw[QZ (ev:=ev) (ev':=ev') d.toList fun x A=>e x (by simp only[Op.operands];simp;exact .inr (by simpa using A)),QZ (ev:=ev) (ev':=ev') first.toList fun x A=>e x (by simp only[Op.operands];simp;exact .inl (by simpa using A))]
  |_=>rfl
 |slice t x lo hi G =>
  cases G with
  |none =>
   simp only[ZP];rw[e x (by simp[Op.operands]),ZkH lo fun y E=>e y (by subst E;simp[Op.operands]),ZkH hi fun y E=>e y (by subst E;simp[Op.operands])]
  |some m =>
   cases lo with
   |none =>
    cases hi with
    |none=>rfl
    |some hi =>
     simp only[ZP];rw[e x (by simp[Op.operands]),e hi (by simp[Op.operands]),e m (by simp[Op.operands])]
   |some lo =>
    cases hi with
    |none=>rfl
    |some hi =>
     simp only[ZP];rw[e x (by simp[Op.operands]),e lo (by simp[Op.operands]),e hi (by simp[Op.operands]),e m (by simp[Op.operands])]
 |call c =>
  have u:evs ev c.args.toList=evs ev' c.args.toList:=QZ _ fun x A=>e x (by simp only[Op.operands,Call.operands];simp;exact .inr (by simpa using A));simp only[ZP,J7,u];split
  ·rename_i f H;rw[e f (by simp[Op.operands,Call.operands,H])]
  ·rfl
  rfl
 |binOp op t x y t' =>
  simp only[ZP];rw[e x (by simp[Op.operands]),e y (by simp[Op.operands])]
 |pick c a b =>
  simp only[ZP];rw[e c (by simp[Op.operands]),e a (by simp[Op.operands]),e b (by simp[Op.operands])]
 |indexAddr t x i| index t x i| lookup t x i ok=>simp only[ZP];rw[e x (by simp[Op.operands]),e i (by simp[Op.operands])]
 |move x| assign x| load t x| nilCheck x| unOp op t x| convert s t x| makeInterface t x| fieldAddr t x f| field t x f| extract x i=>simp only[ZP];rw[e x (by simp[Op.operands])]
 |_=>rfl
theorem ZdE{z:Nat}:∀(l:List (Nat×Operand)) (i:Nat),(∀p,p∈l→ev p.2=ev' p.2)→Ji h ev z i l=Ji h ev' z i l
 |[],_,_=>rfl
 |(j,x)::r,i,e=>by simp only[Ji];rw[show ev x=ev' x from e (j,x) (by simp),ZdE r (i+1) fun p d=>e p (VD _ d)]
theorem ZkU{q:Bool}{t:TypeId}{ps:Array (Nat×Operand)}{z:Option (Nat×Nat)}(e:∀x,x∈(Op.buildSlice t n ps).operands→ev x=ev' x):Zbc q h ev n ps.toList z=Zbc q h ev' n ps.toList z:=by
 cases z with
 |none=>rfl
 |some z =>
  simp only[Zbc];rw[ZdE _ _ fun p d=>e p.2 (by simp only[Op.operands];simp;exact⟨p.1,by simpa using d⟩)]
theorem ZmU(o:Op)(e:∀x,x∈o.operands→ev x=ev' x):Z8 C F ev h o=Z8 C F ev' h o:=by
 have A:=Zg1 (C:=C) (F:=F) (h:=h) o e;cases o with
 |alloc t=>rfl
 |box t x=>simp only[Z8];rw[e x (by simp[Op.operands])]
 |store t a v=>simp only[Z8];rw[e a (by simp[Op.operands]),e v (by simp[Op.operands])]
 |makeSlice t n m=>simp only[Z8];rw[e n (by simp[Op.operands]),e m (by simp[Op.operands])]
 |convert t u y=>simp only[Z8];rw[e y (by simp[Op.operands])]
 |buildSlice t n ps=>simp only[Z8];rw[A,ZkU e]
 |makeMap t r=>cases r<;>rfl
 |mapUpdate t m k v| insert t m k v=>simp only[Z8];rw[e m (by simp[Op.operands]),e k (by simp[Op.operands]),e v (by simp[Op.operands])]
 |call c =>
  have d:evs ev c.args.toList=evs ev' c.args.toList:=QZ _ fun x D=>e x (by simp only[Op.operands,Call.operands];simp;exact .inr (by simpa using D));simp only[Z8,ZbK,d];split
  ·rename_i f E;rw[e f (by simp[Op.operands,Call.operands,E])]
  ·rfl
  ·rfl
  ·rfl
  ·rfl
  ·rfl
  rfl
 |_=>simpa only[Z8]using congrArg (val h) A
theorem ZmL(o:Op)(e:∀x,x∈o.operands→ev x=ev' x):ZcK C ev h l o=ZcK C ev' h l o:=by
 cases o with
 |box t x=>simp only[ZcK];rw[e x (by simp[Op.operands])]
 |makeMap t r=>cases r<;>rfl
 |makeSlice t n m=>simp only[ZcK];rw[e n (by simp[Op.operands]),e m (by simp[Op.operands])]
 |_=>rfl
theorem ZjG(o:Op)(e:∀x,x∈o.operands→ev x=ev' x):YA ev h o=YA ev' h o:=by
 cases o with
 |store t a v=>simp only[YA];rw[e a (by simp[Op.operands])]
 |mapUpdate t m k v| insert t m k v=>simp only[YA];rw[e m (by simp[Op.operands])]
 |call c =>
  have d:evs ev c.args.toList=evs ev' c.args.toList:=QZ _ fun x u=>e x (by simp only[Op.operands,Call.operands];simp;exact .inr (by simpa using u));simp only[YA,d];split
  ·rename_i f A;rw[e f (by simp[Op.operands,Call.operands,A])]
  rfl
 |_=>rfl
end
section
variable{Bs:World→Prop}
def evF(g:Nat→AV):Operand→AV
 |.tmp t=>g t
 |.const v=>JW v
 |.func f=>.fn f []
 |.global _=>.any
theorem ZBb(fr:Fr):ev fr=evF (get fr):=by funext x;cases x<;>rfl
def Za3(g:Nat→AV):Option Nat→AV→Nat→AV
 |some d,v=>fun i=>if d=i then v else g i
 |none,_=>g
theorem Zqp(fr:Fr)(d:Option Nat)(v:AV):get (put fr d v)=Za3 (get fr) d v:=by
 cases d with
 |none=>rfl
 |some d=>funext i;rfl
theorem ZbI{d:Option Nat}{v:AV}(h:d≠some s):Za3 g d v s=g s:=by
 cases d with
 |none=>rfl
 |some d =>
  have:d≠s:=fun e=>h (by rw[e]);simp[Za3,this]
theorem Zr6{d e:Option Nat}{v u:AV}(h:∀s,d=some s→e≠some s):Za3 (Za3 g d v) e u=Za3 (Za3 g e u) d v:=by
 cases d with
 |none=>rfl
 |some d =>
  cases e with
  |none=>rfl
  |some e =>
   have A:d≠e:=fun x=>h d rfl (by rw[x]);funext i;simp only[Za3];by_cases D:d=i
   ·subst D;have:¬e=d:=fun x=>A x.symm;simp[this]
   simp[D]
def ZgX(g:Nat→AV):Option Nat→AV
 |some d=>g d
 |none=>.any
theorem ZqU(fr:Fr)(d:Option Nat):ZdW fr d=ZgX (get fr) d:=by cases d<;>rfl
def WJ(ops:Array Oper)(g:Nat→AV)(o:Oper):Option Bool :=
 match o.guard with
 |none=>some true
 |some (j,want)=>match ZgX g (Wu ops.toList j)with
  |.bool b=>some (decide (b=want))
  |.tup []=>some false
  |_=>none
def Yj(C:Cfg)(F:Tk→Res)(dy:List (Nat×Nat))(pl:Nat→Nat)(ops:Array Oper)(i:Nat)(g:Nat→AV)(h:Za):Option (AV×Za×List Nat) :=
 match ops[i]? with
 |none=>none
 |some o=>match WJ ops g o with
  |some true=>match XP C F dy pl i (evF g) h o.op with
   |some (x,h')=>some (x,h',chg h h' (Ys (pl 0) dy i (evF g) h o.op))
   |none=>none
  |some false=>some (.tup [],h,[])
  |none=>none
end
section
variable{Bs:World→Prop}
variable{C:Cfg}{F:Tk→Res}{dy:List (Nat×Nat)}{pl:Nat→Nat}{ops:Array Oper}{i:Nat}{o:Oper}{g g':Nat→AV}{h h':Za}{x:AV}{T:List Nat}
theorem Zbg(e:∀t,t∈o.looksAt ops→g t=g' t):∀y,y∈o.op.operands→evF g y=evF g' y:=fun y d=>by
 cases y with
 |tmp t=>exact e t (SF _ (VG.2 ⟨.tmp t,by simpa using d,rfl⟩))
 |_=>rfl
theorem Zmi(e:∀t,t∈o.looksAt ops→g t=g' t):WJ ops g o=WJ ops g' o:=by
 unfold WJ;cases A:o.guard with
 |none=>rfl
 |some D =>
  obtain⟨j,u⟩:=D;have:ZgX g (Wu ops.toList j)=ZgX g' (Wu ops.toList j):=by
   unfold Wu;simp only[U4];cases E:ops[j]? with
   |none=>rfl
   |some oj =>
    simp only;cases G:oj.dst with
    |none=>rfl
    |some d=>exact e d (Sj _ (by simp[A,E,G]))
  simp only[this]
theorem ZmT{F:Tk→Res}{ev ev':Operand→AV}{h:Za}(o:Op)(e:∀x,x∈o.operands→ev x=ev' x):QJ F n ev h o=QJ F n ev' h o:=by
 cases o with
 |call c =>
  have d:evs ev c.args.toList=evs ev' c.args.toList:=QZ _ fun x u=>e x (by simp only[Op.operands,Call.operands];simp;exact .inr (by simpa using u));simp only[QJ,d];split
  ·rename_i f A;rw[e f (by simp[Op.operands,Call.operands,A])]
  rfl
 |_=>rfl
theorem Zny(e:∀t,t∈o.looksAt ops→g t=g' t):XP C F dy pl i (evF g) h o.op=XP C F dy pl i (evF g') h o.op:=by unfold XP;rw[Zg1 _ (Zbg e),ZmU _ (Zbg e),ZmL _ (Zbg e),ZmT _ (Zbg e)]
theorem ZgL(d:ops[i]?=some o)(e:∀t,t∈o.looksAt ops→g t=g' t):Yj C F dy pl ops i g h=Yj C F dy pl ops i g' h:=by unfold Yj Ys;simp only[d];rw[Zmi e,Zny e,ZjG _ (Zbg e)]
theorem ZA8{a b:IntKind}(h:eqK a b=true):a=b:=by simpa[eqK]using h
mutual
theorem Zlh:∀(a b:AV),eqA a b=true→a=b
 |.int k a,b,h=>by cases b<;>simp[eqA]at h;obtain⟨d,h2⟩:=h;rw[ZA8 d,h2]
 |.bool a,b,h| .str a,b,h=>by cases b<;>simp[eqA]at h;rw[h]
 |.nilp,b,h| .nilf,b,h| .nili,b,h| .nilm,b,h| .nils,b,h=>by cases b<;>simp[eqA]at h;rfl
 |.emp a,b,h=>by cases b<;>simp[eqA]at h;rw[h]
 |.rows a,b,h| .lit a,b,h=>by cases b<;>simp[eqA]at h;rw[Zl2 a _ h]
 |.rptr a o,b,h=>by cases b<;>simp[eqA]at h;rw[Zc7 a _ h.1,h.2]
 |.agg a,b,h| .tup a,b,h=>by cases b<;>simp[eqA]at h;rw[Zc7 a _ h]
 |.fn f a,b,h| .bnd f a,b,h=>by cases b<;>simp[eqA]at h;rw[Zc7 a _ h.2,h.1]
 |.iface t a,b,h=>by cases b<;>simp[eqA]at h;rw[Zlh a _ h.2,h.1]
 |.ptr l o,b,h| .own l n,b,h=>by cases b<;>simp[eqA]at h;rw[h.1,h.2]
 |.optr l n i o,b,h=>by cases b<;>simp[eqA]at h;rw[h.1,h.2.1,h.2.2.1,h.2.2.2]
 |.mp l,b,h=>by cases b<;>simp[eqA]at h;rw[h]
 |.tptr t l o,b,h| .town t l n,b,h=>by cases b<;>simp[eqA]at h;rw[h.1,h.2.1,h.2.2]
 |.vw l n a m,b,h=>by cases b<;>simp[eqA]at h;rw[h.1.1,h.1.2,h.2.1,h.2.2]
 |.any,b,h=>by cases b<;>simp[eqA]at h
theorem Zc7:∀(a b:List AV),eqL a b=true→a=b
 |[],b,h=>by cases b<;>simp[eqL]at h;rfl
 |a::r,b,h=>by
  cases b with
  |nil=>simp[eqL]at h
  |cons b s =>
   simp only[eqL,VA]at h;rw[Zlh a b h.1,Zc7 r s h.2]
theorem Zl2:∀(a b:List (List AV)),eqR a b=true→a=b
 |[],b,h=>by cases b<;>simp[eqR]at h;rfl
 |a::r,b,h=>by
  cases b with
  |nil=>simp[eqR]at h
  |cons b s =>
   simp only[eqR,VA]at h;rw[Zc7 a b h.1,Zl2 r s h.2]
end
theorem ZtT:∀(a b:List (AV×AV)),eqE a b=true→a=b
 |[],b,h=>by cases b<;>simp[eqE]at h;rfl
 |(a,a')::r,b,h=>by
  cases b with
  |nil=>simp[eqE]at h
  |cons b s =>
   obtain⟨b,b'⟩:=b;simp only[eqE,VA]at h;rw[Zlh a b h.1,Zlh a' b' h.2.1,ZtT r s h.2.2]
theorem ZBB{a b:Option Blk}(h:eqB a b=true):a=b:=by
 unfold eqB at h;split at h
 ·rw[Zc7 _ _ h]
 ·simp only[VA,Up]at h;rw[h.1,h.2.1,Zl2 _ _ h.2.2]
 ·rw[ZtT _ _ h]
 ·rfl
 simp at h
theorem Zfa{h h':Za}{l:Nat}:∀{T:List Nat},l∉chg h h' T→(l∉T→h'[l]?=h[l]?)→h'[l]?=h[l]?
 |[],_,e=>e (by simp)
 |x::T,d,e=>by
  simp only[chg]at d;by_cases u:l=x
  ·subst u;split at d
   ·rename_i D;exact(ZBB D).symm
   simp at d
  split at d
  ·exact Zfa d fun A=>e (by simp[u,A])
  exact Zfa (fun h2=>d (VD _ h2)) fun A=>e (by simp[u,A])
theorem ZaZ(u:ops[i]?=some o)(A:isQ dy i o.op=true)(e:Yj C F dy pl ops i g h=some (x,h',T)):h'=h∧T=[]:=by
 unfold Yj at e;simp only[u]at e;split at e
 ·unfold XP Ys at e;simp only[A,V7]at e;cases d:ZP C (lv F) (evF g) h o.op with
  |none=>simp[d,val]at e
  |some v =>
   simp only[d,val,Va,Vp]at e;exact⟨e.2.1.symm,e.2.2.symm⟩
 ·simp only[Va,Vp]at e;exact⟨e.2.1.symm,e.2.2.symm⟩
 simp at e
mutual
theorem PRep.no_locs{M:Nat→Nat→Prop}{w:World}:∀(a:AV) (v:Value),PRep M w a v→locs a=[]
 |.agg cs,_,r| .tup cs,_,r| .fn _ cs,_,r| .bnd _ cs,_,r=>by obtain⟨vs,_,r⟩:=r;exact PRepL.no_locs cs vs r
 |.iface _ a,_,r=>by obtain⟨y,_,r⟩:=r;exact PRep.no_locs a y r
 |.ptr _ _,_,r| .own _ _,_,r| .optr _ _ _ _,_,r| .mp _,_,r| .tptr _ _ _,_,r| .town _ _ _,_,r| .vw _ _ _ _,_,r=>r.elim
 |.int _ _,_,_| .bool _,_,_| .str _,_,_| .nilp,_,_| .nilf,_,_| .nili,_,_| .emp _,_,_| .nilm,_,_| .nils,_,_| .rows _,_,_| .lit _,_,_| .rptr _ _,_,_| .any,_,_=>rfl
theorem PRepL.no_locs{M:Nat→Nat→Prop}{w:World}:∀(l:List AV) (vs:List Value),PRepL M w l vs→Zg l=[]
 |[],_,_=>rfl
 |a::r,_,x=>by obtain⟨v,d,_,e,h2⟩:=x;simp only[Zg];rw[PRep.no_locs a v e,PRepL.no_locs r d h2];rfl
end
theorem Zh4(v:Value):locs (JW v)=[]:=PRep.no_locs (M:=fun _ _=>True) (w:=default) _ v (X9 v)
def XY(o:Op):List Nat:=(JK o).filterMap fun
 |.tmp t=>some t
 |_=>none
theorem ZpY{o:Op}{t:Nat}(h:Operand.tmp t∈JK o):t∈XY o:=VG.2 ⟨_,h,rfl⟩
theorem ZgE(D:ops[i]?=some o)(E:isQ dy i o.op=true)(e:∀s,s∈XY o.op→∀l,l∈locs (g s)→h[l]?=h'[l]?)(hs:Yj C F dy pl ops i g h=some (x,h,T)):Yj C F dy pl ops i g h'=some (x,h',T):=by
 unfold Yj at hs ⊢;simp only[D]at hs ⊢;cases u:WJ ops g o with
 |none=>simp[u]at hs
 |some b =>
  cases b with
  |true =>
   simp only[u]at hs ⊢;unfold XP Ys at hs ⊢;simp only[E,V7]at hs ⊢;have:ZP C (lv F) (evF g) h o.op=ZP C (lv F) (evF g) h' o.op:=Zmx _ fun y G l d=>by
    cases y with
    |tmp t=>exact e t (ZpY G) l d
    |const v=>rw[show evF g (.const v)=JW v from rfl,Zh4]at d;simp at d
    |func f=>simp[evF,locs,Zg]at d
    |global _=>simp[evF,locs]at d
   rw[←this];cases A:ZP C (lv F) (evF g) h o.op with
   |none=>simp[A,val]at hs
   |some v =>
    simp only[A,val,Va,Vp,chg]at hs;simp only[val,chg];rw[hs.1,hs.2.2]
  |false =>
   simp only[u,Va,Vp]at hs;simp only;rw[←hs.1,←hs.2.2]
theorem Zp8{C:Cfg}{ev:Operand→AV}{h h':Za}{o:Op}{x:AV}(e:ZcK C ev h l o=some (x,h')):∃b,h[l]?=some .hole∧h'=h.set l b∧∀h2:Za,h2[l]?=some .hole→ZcK C ev h2 l o=some (x,h2.set l b):=by
 have d:∀{v:Option AV},fill h l v=some (x,h')→∃b,h[l]?=some .hole∧h'=h.set l b∧∀h2:Za,h2[l]?=some .hole→fill h2 l v=some (x,h2.set l b):=by
  intro v e;unfold fill at e;split at e
  ·split at e
   ·rename_i a cs A u;simp only[Va,Vp]at e;obtain⟨rfl,rfl⟩:=e;exact⟨.cells cs,u,rfl,fun h2 hh=>by simp only[fill,A,hh]⟩
   simp at e
  simp at e
 unfold ZcK at e ⊢;split at e
 ·exact d e
 ·exact d e
 ·unfold Zmv at e;split at e
  ·rename_i u;simp only[Va,Vp]at e;obtain⟨rfl,rfl⟩:=e;exact⟨.map [],u,rfl,fun h2 hh=>by simp only[Zmv,hh]⟩
  simp at e
 ·unfold Znq at e;split at e
  ·rename_i D;split at e
   ·rename_i u;simp only[Va,Vp]at e;obtain⟨rfl,rfl⟩:=e;exact⟨_,u,rfl,fun h2 hh=>by simp only[D,Znq,hh]⟩
   simp at e
  simp at e
 simp at e
theorem Zx9{dy:List (Nat×Nat)}{i:Nat}{o:Op}(h:alo o=true):isQ dy i o=false:=by
 unfold alo at h;split at h
 ·rfl
 ·rfl
 ·rfl
 ·rfl
 simp at h
theorem Q7(D:ops[i]?=some o)(u:alo o.op=true)(e:Yj C F dy pl ops i g h=some (x,h',T)):
  T=[]∧((h'=h∧∀h2,Yj C F dy pl ops i g h2=some (x,h2,[]))∨∃b,h[pl i]?=some .hole∧h'=h.set (pl i) b∧∀h2:Za,h2[pl i]?=some .hole→Yj C F dy pl ops i g h2=some (x,h2.set (pl i) b,[])):=by
 have d:∀h2,Ys (pl 0) dy i (evF g) h2 o.op=[]:=fun h2=>by
  unfold Ys;split
  ·rfl
  first|rfl|rw[Vr u]
 have H:=d h;unfold Yj at e ⊢;simp only[D]at e ⊢;cases A:WJ ops g o with
 |none=>simp[A]at e
 |some b =>
  cases b with
  |false =>
   simp only[A,Va,Vp]at e;obtain⟨rfl,rfl,rfl⟩:=e;exact⟨rfl,.inl ⟨rfl,fun h2=>rfl⟩⟩
  |true =>
   simp only[A]at e ⊢;unfold XP at e ⊢;simp only[Zx9 u,u,V7,V6,UA,d]at e ⊢;split at e
   ·rename_i y J hs;simp only[Va,Vp]at e;obtain⟨rfl,rfl,rfl⟩:=e;obtain⟨b,h3,E,G⟩:=Zp8 hs;exact⟨rfl,.inr ⟨b,h3,E,fun h2 hh=>by rw[G h2 hh];rfl⟩⟩
   simp at e
theorem ZbP(e:Yj C F dy pl ops i g h=some (x,h',T)):h.length≤h'.length∧∀l,l<h.length→l∉T→h[l]?≠some .hole→h'[l]?=h[l]?:=by
 cases u:ops[i]? with
 |none=>simp[Yj,u]at e
 |some o =>
  by_cases A:isQ dy i o.op=true
  ·obtain⟨rfl,_⟩:=ZaZ u A e;exact⟨Vw _,fun _ _ _ _=>rfl⟩
  by_cases D:alo o.op=true
  ·obtain⟨_,d|⟨b,d,h2,_⟩⟩:=Q7 u D e
   ·obtain⟨rfl,_⟩:=d;exact⟨Vw _,fun _ _ _ _=>rfl⟩
   subst h2;refine⟨by simp,fun l H _ G=>Vc fun e=>?_⟩;subst e;exact G d
  unfold Yj at e;simp only[u]at e;split at e
  ·unfold XP Ys at e;simp only[A,D]at e;by_cases E:Zrt dy i o.op=true
   ·simp only[E,V7,V6,UA]at e;split at e
    ·rename_i y d hs;simp only[Va,Vp]at e;obtain⟨rfl,rfl,rfl⟩:=e;have:=Zhy _ hs;exact⟨this.1,fun l d h2 _=>Zfa h2 fun h3=>this.2 l d h3⟩
    simp at e
   simp only[E]at e;split at e
   ·rename_i y d hs;simp only[Va,Vp]at e;obtain⟨rfl,rfl,rfl⟩:=e;have:=Zh0 (ZlJ C) _ (by simpa using hs);exact⟨this.1,fun l d h2 _=>Zfa h2 fun h3=>this.2 l d (by simpa using h3)⟩
   simp at e
  ·simp only[Va,Vp]at e;obtain⟨_,rfl,_⟩:=e;exact⟨Vw _,fun _ _ _ _=>rfl⟩
  simp at e
theorem ZjW(d:ops[i]?=some o)(u:alo o.op=true)(e:Yj C F dy pl ops i g h=some (x,h',T)):T=[]:=(Q7 d u e).1
end
def ZrW:Op→Bool
 |.call c=>match c.callee with
  |.value _=>true
  |_=>false
 |_=>false
def ZdN(p:Nat)(b:Blk):Option (AV×Za)→Option (AV×Za)
 |some (r,h)=>some (r,h.set p b)
 |none=>none
section
variable{h h':Za}{p:Nat}{b:Blk}
mutual
theorem Zpg:∀a:AV,(∀l,l∈locs a→h[l]?=h'[l]?)→conv h a=conv h' a
 |.own l n,e=>by simp only[conv];rw[e l (by simp[locs])]
 |.agg cs,e=>by simp only[conv];rw[Za0 cs e]
 |.tup _,_| .fn _ _,_| .bnd _ _,_| .iface _ _,_| .ptr _ _,_| .optr _ _ _ _,_| .mp _,_| .tptr _ _ _,_| .town _ _ _,_| .vw _ _ _ _,_| .nils,_| .lit _,_| .int _ _,_| .bool _,_| .str _,_| .nilp,_| .nilf,_| .nili,_| .emp _,_| .nilm,_| .rows _,_| .rptr _ _,_| .any,_=>rfl
theorem Za0:∀l:List AV,(∀i,i∈Zg l→h[i]?=h'[i]?)→Qp h l=Qp h' l
 |[],_=>rfl
 |a::r,e=>by simp only[Qp];rw[Zpg a (fun l d=>e l (by simp[Zg,d])),Za0 r (fun l d=>e l (by simp[Zg,d]))]
end
mutual
theorem ZsA:∀a a':AV,conv h a=some a'→∀l,l∈locs a'→l∈locs a
 |.own l n,a',e,i,hi=>by
  simp only[conv]at e;split at e
  ·split at e
   ·simp only[Va]at e;subst e;exact hi
   split at e
   ·simp only[Va]at e;subst e;simp[locs]at hi
   simp at e
  simp at e
 |.agg cs,a',e,i,hi=>by
  simp only[conv]at e;split at e
  ·rename_i d u;simp only[Va]at e;subst e;exact Zas cs d u i hi
  simp at e
 |.nils,a',e,i,hi| .lit _,a',e,i,hi=>by simp only[conv,Va]at e;subst e;simp[locs]at hi
 |.tup _,a',e,i,hi| .fn _ _,a',e,i,hi| .bnd _ _,a',e,i,hi| .iface _ _,a',e,i,hi| .ptr _ _,a',e,i,hi| .optr _ _ _ _,a',e,i,hi| .mp _,a',e,i,hi| .tptr _ _ _,a',e,i,hi| .town _ _ _,a',e,i,hi| .vw _ _ _ _,a',e,i,hi| .int _ _,a',e,i,hi| .bool _,a',e,i,hi| .str _,a',e,i,hi| .nilp,a',e,i,hi| .nilf,a',e,i,hi| .nili,a',e,i,hi| .emp _,a',e,i,hi| .nilm,a',e,i,hi| .rows _,a',e,i,hi| .rptr _ _,a',e,i,hi| .any,a',e,i,hi=>by simp only[conv,Va]at e;subst e;exact hi
theorem Zas:∀a a':List AV,Qp h a=some a'→∀l,l∈Zg a'→l∈Zg a
 |[],a',e,i,hi=>by simp only[Qp,Va]at e;subst e;exact hi
 |a::r,a',e,i,hi=>by
  simp only[Qp]at e;split at e
  ·rename_i x d;split at e
   ·rename_i y u;simp only[Va]at e;subst e;simp only[Zg,Vg]at hi ⊢;rcases hi with hi|hi
    ·exact .inl (ZsA a x d i hi)
    exact .inr (Zas r y u i hi)
   simp at e
  simp at e
end
theorem ZbY(l:Nat)(d:l≠p):h[l]?=(h.set p b)[l]?:=(Vc (fun e=>d e.symm)).symm
theorem ZcN{L:List Nat}(d:p∉L):∀l,l∈L→h[l]?=(h.set p b)[l]?:=fun l u=>ZbY l fun e=>d (e▸u)
theorem ZaR(u:∀(l:Nat) (k:Blk),h[l]?=some k→p∉ZA k):∀(n:Nat) (l s:List Nat),p∉l→p∉s→Y7 (h.set p b) n l s=Y7 h n l s∧p∉Y7 h n l s
 |0,l,s,_,h2| n+1,[],s,_,h2=>⟨rfl,h2⟩
 |n+1,x::l,s,d,h2=>by
  simp only[Vn,So]at d;have A:=ZbY (h:=h) (b:=b) x fun e=>d.1 e.symm;simp only[Y7];rw[←A];split
  ·exact ZaR u n l s d.2 h2
  have hs:p∉s++[x]:=by simp[h2,d.1]
  split
  ·rename_i k D;exact ZaR u n _ _ (by simp only[Vg,So];exact⟨d.2,u x k D⟩) hs
  exact ZaR u n _ _ d.2 hs
theorem ZhH(σ:Nat→Nat):∀ls:List Nat,p∉ls→sub (h.set p b) σ ls=sub h σ ls
 |[],_=>rfl
 |l::r,d=>by simp only[Vn,So]at d;simp only[sub];rw[←ZbY (h:=h) (b:=b) l fun e=>d.1 e.symm,ZhH σ r d.2]
theorem ZfQ(σ:Nat→Nat):∀(ls:List Nat) (d h:Za),p∉ls→back σ ls d (h.set p b)=(back σ ls d h).set p b
 |[],d,h,_=>by cases d<;>rfl
 |l::ls,[],h,_=>rfl
 |l::ls,k::d,h,e=>by simp only[Vn,So]at e;simp only[back];rw[Pr _ _ e.1,ZfQ σ ls d _ e.2]
theorem ZiP(σ:Nat→Nat):∀(ls:List Nat) (d h:Za),(back σ ls d h).length=h.length
 |[],d,h=>by cases d<;>rfl
 |l::ls,[],h=>rfl
 |l::ls,k::d,h=>by simp only[back];rw[ZiP σ ls d];simp
theorem Zmo{x:Za}(d:p<h.length):h.set p b++x=(h++x).set p b:=(S3 _ _ d).symm
theorem WD(d:p<h.length)(e:p∉ls)(r:AV)(hs:Za):Z4 (h.set p b) ls r hs=ZdN p b (Z4 h ls r hs):=by simp only[Z4,ZdN,Vq];rw[ZfQ _ ls hs h e,Zmo (by rw[ZiP];exact d)]
theorem ZhT(u:p<h.length):∀r:Res,Wt (h.set p b) r=ZdN p b (Wt h r)
 |none=>rfl
 |some (r,[])=>by cases r<;>rfl
 |some (r,k::hs)=>by
  have d:Z4 (h.set p b) [] r (k::hs)=ZdN p b (Z4 h [] r (k::hs)):=WD u (by simp) _ _;unfold Wt;split
  ·rename_i e;simp at e
  ·rename_i n b' e;simp only[Va,Vp,Su]at e;obtain⟨rfl,rfl,rfl⟩:=e;split
   ·simp only[ZdN,Vq];rw[Zmo u]
   rfl
  ·rename_i _ e;simp only[Va,Vp,Su]at e;obtain⟨rfl,rfl,rfl⟩:=e;exact d
  rename_i e;simp at e
theorem ZfD(d:p<h.length)(e:p∉ls):∀r:Res,WZ (h.set p b) ls r=ZdN p b (WZ h ls r)
 |none=>rfl
 |some (r,hs)=>by
  simp only[WZ,Vq];rw[ZfQ _ ls hs h e];split
  ·rfl
  split
  ·split
   ·split
    ·simp only[ZdN];rw[Zmo (by rw[ZiP];exact d)]
    exact WD d e _ _
   exact WD d e _ _
  split
  ·exact WD d e _ _
  rfl
theorem Zbb{f d:List AV→Option (List AV)}:∀rs:List (List AV),(∀row,row∈rs→f row=d row)→ZL f rs=ZL d rs
 |[],_=>rfl
 |row::r,e=>by simp only[ZL];rw[e row (by simp),Zbb r fun x u=>e x (by simp[u])]
theorem YH:∀{rs:List (List AV)} {row:List AV},row∈rs→∀l,l∈Zg row→l∈Zz rs
 |a::rs,row,d,l,e=>by
  simp only[Zz,Vg];rcases Vn.1 d with rfl|d
  ·exact .inl e
  exact .inr (YH d l e)
mutual
theorem ZhL{f J:List AV→Option (List AV)}(E:∀(l:Nat) (k:Blk),h[l]?=some k→p∉ZA k)(G:∀cs:List AV,p∉Zg cs→J cs=f cs):∀a:AV,p∉locs a→ZH J (h.set p b) a=ZH f h a
 |.own l n,d=>by
  have e:=ZbY (h:=h) (b:=b) (p:=p) l (fun e=>d (by simp[locs,e]));simp only[ZH,←e];cases A:h[l]? with
  |none=>rfl
  |some k =>
   have D:=E l k A;cases k with
   |rows z rs wr =>
    have M:Z1 J rs=Z1 f rs:=by
     unfold Z1;split
     ·rfl
     exact Zbb rs fun row u=>G row fun H=>D (YH u p H)
    simp only[M]
   |_=>rfl
 |.ptr l o,d=>by
  have e:=ZbY (h:=h) (b:=b) (p:=p) l (fun e=>d (by simp[locs,e]));simp only[ZH,←e];cases A:h[l]? with
  |none=>rfl
  |some k =>
   have D:=E l k A;cases k with
   |cells cs=>simp only[G cs D]
   |_=>rfl
 |.optr l n i o,d=>by
  have e:=ZbY (h:=h) (b:=b) (p:=p) l (fun e=>d (by simp[locs,e]));simp only[ZH,←e];cases A:h[l]? with
  |none=>rfl
  |some k =>
   have D:=E l k A;cases k with
   |rows z rs wr =>
    cases O:rs[i]? with
    |none=>simp only[O]
    |some row=>simp only[O,G row fun H=>D (YH (Ve O) p H)]
   |_=>rfl
 |.agg cs,d| .tup cs,d| .fn _ cs,d| .bnd _ cs,d=>by simp only[ZH];rw[Qq E G cs d]
 |.iface _ a,d=>by simp only[ZH];rw[ZhL E G a d]
 |.mp _,_| .tptr _ _ _,_| .town _ _ _,_=>rfl
 |.vw l n q m,d=>by
  have e:=ZbY (h:=h) (b:=b) (p:=p) l (fun e=>d (by simp[locs,e]));simp only[ZH,←e];cases A:h[l]? with
  |none=>rfl
  |some k =>
   have D:=E l k A;cases k with
   |rows z rs wr =>
    have M:Z1 J (cut rs q (q+m))=Z1 f (cut rs q (q+m)):=by
     unfold Z1;split
     ·rfl
     exact Zbb _ fun row u=>G row fun H=>D (YH (by unfold cut at u;exact S4 (Pv u)) p H)
    simp only[M]
   |_=>rfl
 |.int _ _,_| .bool _,_| .str _,_| .nilp,_| .nilf,_| .nili,_| .nilm,_| .nils,_| .emp _,_| .rows _,_| .lit _,_| .rptr _ _,_| .any,_=>rfl
theorem Qq{f e:List AV→Option (List AV)}(u:∀(l:Nat) (k:Blk),h[l]?=some k→p∉ZA k)(A:∀cs:List AV,p∉Zg cs→e cs=f cs):∀l:List AV,p∉Zg l→Zs e (h.set p b) l=Zs f h l
 |[],_=>rfl
 |a::r,d=>by simp only[Zg,Vg,So]at d;simp only[Zs];rw[ZhL u A a d.1,Qq u A r d.2]
end
theorem ZiO(e:∀(l:Nat) (k:Blk),h[l]?=some k→p∉ZA k):∀(n:Nat) (cs:List AV),p∉Zg cs→Zy n (h.set p b) cs=Zy n h cs
 |0,_,_=>rfl
 |n+1,cs,d=>by simp only[Zy];exact Qq e (fun cs d=>ZiO e n cs d) cs d
theorem Zjw(d:p<h.length):∀r:Option (AV×Za),Wa (h.set p b) r=ZdN p b (Wa h r)
 |none=>rfl
 |some (r,e)=>by
  unfold Wa;simp only;split
  ·exact WD d (by simp) _ _
  rfl
theorem ZgQ(d:p<h.length)(G:∀(l:Nat) (k:Blk),h[l]?=some k→p∉ZA k)(e:Nat)(u:e≠2)(g:FuncId)(args:List AV)(A:p∉Zg args)(o:Option (List AV)):Wi e F g (h.set p b) args o=ZdN p b (Wi e F g h args o):=by
 unfold Wi;split
 ·exact ZhT d _
 have key:W4 F g (h.set p b) (Zy 8 (h.set p b) args)=ZdN p b (W4 F g h (Zy 8 h args)):=by
  rw[ZiO G 8 args A];unfold W4;split
  ·exact Zjw d _
  rfl
 split
 ·exact key
 ·rename_i D;exact absurd D (ZqB u)
 rw[←Za0 args (ZcN A)];split
 ·rename_i args' H;have E:p∉Zg args':=fun J=>A (Zas _ _ H p J);obtain⟨M,h2⟩:=ZaR (b:=b) G 100 (Zg args') [] E (by simp);rw[M];unfold Z0;split
  ·rw[ZhH _ _ h2];split
   ·split
    ·exact ZfD d h2 _
    rfl
   rfl
  rfl
 rfl
theorem ZoY{nl:FuncId→Bool×Nat}(d:∀g,(nl g).2≠2)(D:p<h.length)(E:∀(l:Nat) (k:Blk),h[l]?=some k→p∉ZA k)(args:List AV)(f:AV)(G:p∉Zg args)(H:p∉locs f):ZU nl F (h.set p b) args f=ZdN p b (ZU nl F h args f):=by
 cases f with
 |fn g e =>
  have u:p∉Zg (args++e):=fun A=>by rw[WW]at A;exact A.elim G H
  simp only[ZU];rw[←Zd8 (ZcN u)];exact ZgQ D E _ (d _) _ _ u _
 |bnd g fs =>
  have u:p∉Zg (fs++args):=fun A=>by rw[WW]at A;exact A.elim H G
  simp only[ZU];rw[←Zd8 (ZcN u)];exact ZgQ D E _ (d _) _ _ u _
 |_=>rfl
theorem ZmJ{g:FuncId}(e:p<h.length)(d:p∉ls):Z0 F g (h.set p b) ls args=ZdN p b (Z0 F g h ls args):=by
 unfold Z0;split
 ·rw[ZhH _ _ d];split
  ·split
   ·exact ZfD e d _
   rfl
  rfl
 rfl
theorem ZoV{ev:Operand→AV}(d:p<h.length)(u:n≤p)(o:Op):QJ F n ev (h.set p b) o=ZdN p b (QJ F n ev h o):=by
 have e:p∉List.range n:=by simp;omega
 unfold QJ;split
 ·split
  ·split
   ·exact ZmJ d e
   rfl
  rfl
 rfl
theorem Zk1(E:∀(l:Nat) (k:Blk),h[l]?=some k→p∉ZA k)(args:List AV)(f:AV)(u:p∉Zg args)(A:p∉locs f):ZN (h.set p b) args f=ZN h args f∧p∉ZN h args f:=by
 have one:∀l:List AV,p∉Zg l→(match ZE (h.set p b) l with
   |some _=>[]
   |none=>match Qp (h.set p b) l with
    |some l=>Y7 (h.set p b) 100 (Zg l) []
    |none=>[])=(match ZE h l with
   |some _=>[]
   |none=>match Qp h l with
    |some l=>Y7 h 100 (Zg l) []
    |none=>[])∧p∉(match ZE h l with
   |some _=>[]
   |none=>match Qp h l with
    |some l=>Y7 h 100 (Zg l) []
    |none=>[]):=fun l e=>by
  rw[←XV l (ZcN e),←Za0 l (ZcN e)];split
  ·simp
  split
  ·rename_i l' G;exact ZaR E 100 _ [] (fun d=>e (Zas _ _ G p d)) (by simp)
  simp
 cases f with
 |fn g D=>exact one _ (fun d=>((WW _ _ _).1 d).elim u A)
 |bnd g fs=>exact one _ (fun d=>((WW _ _ _).1 d).elim A u)
 |_=>exact⟨rfl,by simp[ZN]⟩
theorem ZiN{h':Za}:∀T:List Nat,p∉T→chg (h.set p b) (h'.set p b) T=chg h h' T
 |[],_=>rfl
 |l::T,d=>by simp only[Vn,So]at d;have e:¬p=l:=d.1;simp only[chg];rw[Vc e,Vc e,ZiN T d.2]
end
section
variable{C:Cfg}{F:Tk→Res}{dy:List (Nat×Nat)}{pl:Nat→Nat}{ops:Array Oper}{i:Nat}{o:Oper}{g:Nat→AV}{h:Za}{p:Nat}{b:Blk}
theorem Zio(S:ops[i]?=some o)(U:ZrW o.op=true)(H:isQ dy i o.op=false)(X:pl 0≤p)(W:p<h.length)(Z:∀(l:Nat) (k:Blk),h[l]?=some k→p∉ZA k)(hg:∀s,p∉locs (g s)):
  Yj C F dy pl ops i g (h.set p b)=(match Yj C F dy pl ops i g h with
   |some (x,h',T)=>some (x,h'.set p b,T)
   |none=>none)∧∀x h' T,Yj C F dy pl ops i g h=some (x,h',T)→h'[p]?=h[p]?:=by
 have Y:∀y,p∉locs (evF g y):=fun y=>by
  cases y with
  |tmp t=>exact hg t
  |const v=>rw[show evF g (.const v)=JW v from rfl,Zh4];simp
  |func f=>simp[evF,locs,Zg]
  |global _=>simp[evF,locs]
 have J:∀l:List Operand,p∉Zg (evs (evF g) l):=fun l hx=>by obtain⟨y,_,h2⟩:=ZfR _ _ _ hx;exact Y y h2
 unfold ZrW at U;cases D:o.op with
 |call c =>
  rw[D]at U H;cases M:c.callee with
  |value f =>
   have E:alo (Op.call c)=false:=rfl;by_cases G:Zrt dy i (.call c)=true
   ·have key:∀h:Za,XP C F dy pl i (evF g) h (.call c)=QJ F (pl 0) (evF g) h (.call c):=fun h=>by simp only[XP,H,E,G,V6,UA,V7]
    have u:∀h:Za,Ys (pl 0) dy i (evF g) h (.call c)=List.range (pl 0):=fun h=>by simp only[Ys,H,E,G,V6,UA,V7]
    have O:p∉List.range (pl 0):=by simp;omega
    have A:=ZoV (F:=F) (ev:=evF g) (b:=b) W X (.call c);refine⟨?_,?_⟩
    ·unfold Yj;simp only[S,D,key,u,A];cases WJ ops g o with
     |none=>rfl
     |some d =>
      cases d with
      |false=>rfl
      |true =>
       cases Q:QJ F (pl 0) (evF g) h (.call c)with
       |none=>rfl
       |some q =>
        obtain⟨x,h'⟩:=q;simp only[ZdN];rw[ZiN _ O]
    intro x h' T e;unfold Yj at e;simp only[S,D,key,u]at e;split at e
    ·split at e
     ·rename_i Q;simp only[Va,Vp]at e;obtain⟨rfl,rfl,_⟩:=e;exact(Zhy _ Q).2 p W O
     simp at e
    ·simp only[Va,Vp]at e;obtain⟨_,rfl,_⟩:=e;rfl
    simp at e
   have G:Zrt dy i (.call c)=false:=by simpa using G
   obtain⟨t1,O⟩:=Zk1 (b:=b) Z (evs (evF g) c.args.toList) (evF g f) (J _) (Y _);have key:∀h:Za,XP C F dy pl i (evF g) h (.call c)=ZU C.shut.nlA F h (evs (evF g) c.args.toList) (evF g f):=fun h=>by simp only[XP,H,E,G,V6,UA,Z8,ZbK,M]
   have u:∀h:Za,Ys (pl 0) dy i (evF g) h (.call c)=ZN h (evs (evF g) c.args.toList) (evF g f):=fun h=>by simp only[Ys,H,E,G,V6,UA,YA,M]
   have A:=ZoY (nl:=C.shut.nlA) (ZlJ C) (F:=F) (b:=b) W Z (evs (evF g) c.args.toList) (evF g f) (J _) (Y _);refine⟨?_,?_⟩
   ·unfold Yj;simp only[S,D,key,u,A,t1];cases WJ ops g o with
    |none=>rfl
    |some d =>
     cases d with
     |false=>rfl
     |true =>
      cases Q:ZU C.shut.nlA F h (evs (evF g) c.args.toList) (evF g f)with
      |none=>rfl
      |some q =>
       obtain⟨x,h'⟩:=q;simp only[ZdN];rw[ZiN _ O]
   intro x h' T e;unfold Yj at e;simp only[S,D,key,u]at e;split at e
   ·split at e
    ·rename_i Q;simp only[Va,Vp]at e;obtain⟨rfl,rfl,_⟩:=e;have:=Zh0 (C:=C.shut) (ZlJ C) (F:=F) (ev:=evF g) (h:=h) (.call c) (by simpa only[Z8,ZbK,M]using Q);refine this.2 p W ?_;simpa only[YA,M]using O
    simp at e
   ·simp only[Va,Vp]at e;obtain⟨_,rfl,_⟩:=e;rfl
   simp at e
  |_=>simp[M]at U
 |_=>simp[D]at U
end
theorem Zi9:∀a b:List UInt8,a≠b→Op.bytesLess a b=!Op.bytesLess b a
 |[],[],h=>absurd rfl h
 |[],_::_,_| _::_,[],_=>rfl
 |x::a,y::b,h=>by
  simp only[Op.bytesLess];by_cases d:x=y
  ·subst d;have:=Zi9 a b fun e=>h (by rw[e]);simp[this]
  have A:(x==y)=false:=by simpa using d
  have h2:(y==x)=false:=by simpa using fun e:y=x=>d e.symm
  simp only[A,h2,UF,Ps];rcases UInt8.lt_or_lt_of_ne d with h3|h3
  ·have:¬y<x:=fun u=>absurd (UInt8.lt_trans h3 u) (UInt8.lt_irrefl _);simp[h3,this]
  have:¬x<y:=fun u=>absurd (UInt8.lt_trans h3 u) (UInt8.lt_irrefl _);simp[h3,this]
theorem ZhA:∀a b c:List UInt8,Op.bytesLess a b=true→Op.bytesLess b c=true→Op.bytesLess a c=true
 |_,_,[],_,h| _,[],_::_,h,_=>by simp[Op.bytesLess]at h
 |[],_::_,_::_,_,_=>rfl
 |x::a,y::b,z::c,h,h'=>by
  simp only[Op.bytesLess,U0,VA,VK,Up]at h h' ⊢;rcases h with h|⟨rfl,h⟩
  ·rcases h' with h'|⟨rfl,_⟩
   ·exact .inl (UInt8.lt_trans h h')
   exact .inl h
  rcases h' with h'|⟨rfl,h'⟩
  ·exact .inl h'
  exact .inr ⟨rfl,ZhA a b c h h'⟩
def ZiA(_oi _oj:Oper):Option (Nat×Nat):=none
def ZeR(_oi _oj:Oper):Bool:=false
section
variable{C:Cfg}{F:Tk→Res}{dy:List (Nat×Nat)}{pl:Nat→Nat}{ops:Array Oper}{i j:Nat}{oi oj:Oper}{g:Nat→AV}{h h' h'':Za}{x y:AV}{T T':List Nat}
theorem Zm5(u:ops[i]?=some oi)(d:ops[j]?=some oj)(e:ZiA oi oj=some (p,q))
  (A:Yj C F dy pl ops i g h=some (x,h',T)) (h2:Yj C F dy pl ops j g h'=some (y,h'',T'))
  (D:∀l,l∈locs (g q)→l∉T) (E:∀l,l∈locs (g p)→l∉T') :
  ∃h2,Yj C F dy pl ops j g h=some (y,h2,T')∧Yj C F dy pl ops i g h2=some (x,h'',T):=by
 cases e
theorem ZmF(u:ops[i]?=some oi)(d:ops[j]?=some oj)(e:ZeR oi oj=true)
  (A:Yj C F dy pl ops i g h=some (x,h',T)) (h2:Yj C F dy pl ops j g h'=some (y,h'',T'))
  (D:∀s,s∈XY oj.op→∀l,l∈locs (g s)→l∉T) (E:∀s,s∈XY oi.op→∀l,l∈locs (g s)→l∉T') :
  ∃h2,Yj C F dy pl ops j g h=some (y,h2,T')∧Yj C F dy pl ops i g h2=some (x,h'',T):=by
 cases e
end
section
variable{Bs:World→Prop}
variable{P:Program}{μ μ' μ0:Mp Bs}{h h' h0:Za}{w w' w0:World}
theorem Ext.length_le(e:Ext μ h w μ' h' w'):h.length≤h'.length:=e.len
mutual
theorem Zh8:∀a:AV,ren (fun l=>l) a=a
 |.agg cs| .tup cs| .fn _ cs| .bnd _ cs=>by simp only[ren,Jj cs]
 |.iface _ a=>by simp only[ren,Zh8 a]
 |.ptr _ _| .own _ _| .optr _ _ _ _| .mp _| .tptr _ _ _| .town _ _ _| .vw _ _ _ _| .int _ _| .bool _| .str _| .nilp| .nilf| .nili| .emp _| .nilm| .nils| .rows _| .lit _| .rptr _ _| .any=>rfl
theorem Jj:∀l:List AV,Xl (fun l=>l) l=l
 |[]=>rfl
 |a::r=>by simp only[Xl,Zh8 a,Jj r]
end
theorem ZqG:∀rs:List (List AV),XN (fun l=>l) rs=rs
 |[]=>rfl
 |r::rs=>by simp only[XN,Jj r,ZqG rs]
theorem RowsN.each{μ':Mp Bs}{h':Za}{w':World}{vs:Array Value}(F:∀(a:AV) (v:Value),(∀i,i∈locs a→i∈Zz rs)→Rep μ h w a v→Rep μ' h' w' a v)(r:RowsN μ h w z rs vs):RowsN μ' h' w' z rs vs:=by intro i row d;obtain⟨u,h2,h3⟩:=r i row d;refine⟨u,h2,fun c a e=>?_⟩;obtain⟨v,A,D⟩:=h3 c a e;exact⟨v,A,F a v (fun i hi=>ZiD (Ve d) (Zhw (Ve e) hi)) D⟩
theorem Zmf(b:Blk):YY (fun l=>l) b=b:=by
 cases b with
 |cells cs=>simp only[YY,Jj]
 |rows z rs wr=>simp only[YY,ZqG]
 |hole| map es=>rfl
theorem ZeZ(d:l<n):(h.take n)[l]?=h[l]?:=by rw[Us,Vr d]
theorem Zai{k:Blk}(e:(h.take n)[l]?=some k):l<n∧h[l]?=some k:=by
 rw[Us]at e;split at e
 ·rename_i d;exact⟨d,e⟩
 simp at e
theorem Zfx{o:Nat}(d:Mut μ (h.take n) b o):Mut μ h b o:=by
 rcases d with e|⟨l,k,u,d,e⟩
 ·exact .inl e
 exact .inr ⟨l,k,(Zai u).2,d,e⟩
theorem Zaa:Zcj (Mut μ h) w (Mut μ (h.take n)) w:=fun _ _ _ d e=>⟨d,fun u=>e (Zfx u)⟩
theorem Zt1(d:l<n):Wk μ h μ (h.take n) (fun l=>l) l:=fun k e=>⟨by rw[Zmf];show(h.take n)[l]?=some k;rw[ZeZ d];exact e,rfl⟩
theorem Rep.cut{a:AV}(d:∀l,l∈locs a→l<n)(r:Rep μ h w a v):Rep μ (h.take n) w a v:=by
 have:=Rep.ren (μ':=μ) (h':=h.take n) (σ:=fun l=>l) (fun b o e=>Zfx e) a v (fun l u=>Zt1 (d l u)) r
 rwa [Zh8]at this
theorem RepL.cut{a:List AV}{v:List Value}(d:∀l,l∈Zg a→l<n)(r:RepL μ h w a v):RepL μ (h.take n) w a v:=by
 have:=RepL.ren (μ':=μ) (h':=h.take n) (σ:=fun l=>l) (fun b o e=>Zfx e) a v (fun l u=>Zt1 (d l u)) r
 rwa [Jj]at this
theorem Rel.cut{n:Nat}(e:Rel μ h w)(E:Zi n (Zk (h.take n))=true):Rel μ (h.take n) w where
 inj:=fun l l' b d u=>e.inj l l' b (by simp at d;omega) (by simp at u;omega)
 blk:=fun l k d=>by
  obtain⟨H,u⟩:=Zai d;have:=e.blk l k u;cases k with
  |cells cs =>
   obtain⟨b,vs,T,A,h2,h3,D⟩:=this;exact⟨b,vs,T,A,h2,h3,RepL.cut (fun i hi=>YI E i (Wo d i hi)) D⟩
  |rows z rs wr =>
   rcases this with A|⟨b,vs,T,A,h2,h3,D⟩
   ·exact .inl A
   exact .inr ⟨b,vs,T,A,h2,h3,D.each fun a v hi r=>Rep.cut (fun i J=>YI E i (Wo d i (hi i J))) r⟩
  |hole=>exact this
  |map es =>
   obtain⟨b,ms,c,A,h2,h3⟩:=this;exact⟨b,ms,c,A,h2,h3.keep Zaa⟩
 apart:=fun l b o d=>e.apart l b o (by simp at d;omega)
 old:=e.old
 still:=fun b G=>⟨(e.still b G).1,fun l d=>(e.still b G).2 l (by simp at d;omega)⟩
 base:=e.base
theorem Ext.cut(e:Ext μ0 h0 w0 μ h w)(Q:h0.length≤n):Ext μ0 h0 w0 μ (h.take n) w where
 out:=e.out
 still:=e.still
 os:=e.os
 tape:=e.tape
 output:=e.output
 size:=e.size
 keep:=fun b o v G H=>by obtain⟨u,h2⟩:=e.keep b o v G H;exact⟨u,fun J=>h2 (Zfx J)⟩
 outside:=fun b M O=>by obtain⟨u,h2⟩:=e.outside b M O;exact⟨u,fun l d=>h2 l (by simp at d;omega)⟩
 cells:=fun l cs d=>by obtain⟨⟨A,u⟩,h2⟩:=e.cells l cs d;have:=(Vb.1 d).1;exact⟨⟨A,by rw[ZeZ (by omega)];exact u⟩,h2⟩
 rows:=fun l z rs wr d=>by obtain⟨rs',D,u,h2⟩:=e.rows l z rs wr d;have:=(Vb.1 d).1;exact⟨rs',D,by rw[ZeZ (by omega)];exact u,h2⟩
 len:=by have:=e.len;simp;omega
 maps:=fun l es d=>by obtain⟨⟨E,u⟩,h2⟩:=e.maps l es d;have:=(Vb.1 d).1;exact⟨⟨E,by rw[ZeZ (by omega)];exact u⟩,h2⟩
 sizes:=e.sizes
theorem FrRel.cut{n:Nat}{fr:Fr}{t:Array Value}(e:Zi n (Qv fr)=true)(u:FrRel μ h w fr t):FrRel μ (h.take n) w fr t:=fun i=>by refine Rep.cut (fun l d=>YI e l ?_) (u i);exact get_locs fr i l d
where
 get_locs:∀(fr:Fr) (i l:Nat),l∈locs (get fr i)→l∈Qv fr
  |[],i,l,d=>by simp[get,locs]at d
  |(j,v)::r,i,l,d=>by
   simp only[get]at d;simp only[Qv,Vg];split at d
   ·exact .inl d
   exact .inr (get_locs r i l d)
theorem ZfV(fr:Fr):∀(l:List Nat) (i:Nat),get (restr fr l) i=get fr i∨get (restr fr l) i=.any
 |[],i=>.inr rfl
 |j::r,i=>by
  simp only[restr,get];split
  ·rename_i h;subst h;exact .inl rfl
  exact ZfV fr r i
theorem FrRel.restr(l:List Nat)(d:FrRel μ h w fr t):FrRel μ h w (Go.Ab.restr fr l) t:=fun i=>by
 rcases ZfV fr l i with e|e
 ·rw[e];exact d i
 rw[e];exact trivial
theorem Zty{G:Nat→Nat→Prop}(hr:Rel μ h w)(U:h[l]?=some (.rows z rs wr))(W:rs.length=n)(H:Zz rs=[])(J:OwnRep μ h w l n v)
  (hM:∀b o,G b o→Mut μ h b o) (M:∀b o,μ l=some b→o<rs.length*z→¬G b o):PRep G w (.rows rs) v:=by
 obtain⟨z',rs',a0,base,cap,A,_,rfl,J⟩:=J;rw[U]at A;simp only[Va,Blk.rows.injEq]at A;obtain⟨rfl,rfl,rfl⟩:=A;obtain⟨X,_,hb⟩:=J W.symm;refine⟨base,cap,by rw[W],by omega,?_⟩;rcases hb with rfl|⟨b,vs,T,rfl,E,hw,_⟩
 ·left;exact VS.1 (by omega)
 rcases hr.blk l _ U with⟨_,h0⟩|⟨b',a1,T',D,⟨fz,O,_⟩,Y,Q⟩
 ·rw[E]at h0;simp at h0
 have e:b'=b:=by rw[E]at D;simpa using D.symm
 subst e;right;refine⟨b',0,z,rfl,PRows.of_at rs 0 fun i row d=>?_⟩;obtain⟨Z,S,h3⟩:=Q.none H i row d;refine⟨Z,S,PMem.of_at row _ fun c a ha=>?_⟩;obtain⟨u,hu,hp⟩:=h3 c a ha;have hi:i<rs.length:=(Vb.1 d).1;have a2:c<z:=by rw[←Z];exact(Vb.1 ha).1
 refine⟨u,by simp only[World.cell?,O];simpa using hu,M _ _ D ?_,PRep.keep (fun b o v X E=>⟨X,fun hx=>E (hM b o hx)⟩) _ _ hp⟩;have:i*z+z≤rs.length*z:=by rw[←Un];exact VT z hi
 omega
theorem Zse{rs:List (List AV)}{J:Nat→Nat→Prop}(hr:Rel μ h w)(Y:h[l]?=some (.rows z rs wr))(Z:rs.length=n)(M:rs'.length=rs.length∧∀(i:Nat) (row':List AV),rs'[i]?=some row'→∃row,rs[i]?=some row∧row'.length=row.length∧singles row'=true∧∀(c:Nat) (a':AV),row'[c]?=some a'→∃a,row[c]?=some a∧∀u,Rep μ h w a u→PRep J w a' u)(O:OwnRep μ h w l n v)
  (hM:∀b o,J b o→Mut μ h b o) (Q:∀b o,μ l=some b→o<rs.length*z→¬J b o):PRep J w (.rows rs') v:=by
 obtain⟨D,d⟩:=M;obtain⟨z',a1,a2,base,cap,E,_,rfl,O⟩:=O;rw[Y]at E;simp only[Va,Blk.rows.injEq]at E;obtain⟨rfl,rfl,rfl⟩:=E;obtain⟨hc,_,hb⟩:=O Z.symm;refine⟨base,cap,by rw[D,Z],by omega,?_⟩;rcases hb with rfl|⟨b,vs,T,rfl,hm,hw,_⟩
 ·left;exact VS.1 (by omega)
 rcases hr.blk l _ Y with⟨_,h0⟩|⟨b',a3,T',G,⟨fz,S,_⟩,a0,U⟩
 ·rw[hm]at h0;simp at h0
 have e:b'=b:=by rw[hm]at G;simpa using G.symm
 subst e;right;refine⟨b',0,z,rfl,PRows.of_at rs' 0 fun i row' H=>?_⟩;obtain⟨row,A,g1,g2,g3⟩:=d i row' H;obtain⟨h1,a4,h3⟩:=U i row A;refine⟨by omega,g2,PMem.of_at row' _ fun c a' W=>?_⟩;obtain⟨a,ha,X⟩:=g3 c a' W;obtain⟨u,hu,hp⟩:=h3 c a ha;have hi:i<rs.length:=(Vb.1 A).1;have a5:c<z:=by rw[←h1];exact(Vb.1 ha).1
 refine⟨u,by simp only[World.cell?,S];simpa using hu,Q _ _ G ?_,X u hp⟩;have:i*z+z≤rs.length*z:=by rw[←Un];exact VT z hi
 omega
theorem Zpq{rs:List (List AV)}(M:Rel μ h w)(O:h[l]?=some (.rows z rs wr))(hn:rs.length=n)(a0:q+m≤n)(hk:¬l<k)
  (Q:rs'.length=(cut rs q (q+m)).length∧∀(i:Nat) (row':List AV),rs'[i]?=some row'→∃row,(cut rs q (q+m))[i]?=some row∧row'.length=row.length∧singles row'=true∧∀(c:Nat) (a':AV),row'[c]?=some a'→∃a,row[c]?=some a∧∀u,Rep μ h w a u→PRep (Mut μ (h.take k)) w a' u)
  (Z:VwRep μ h w l n q m v):PRep (Mut μ (h.take k)) w (.rows rs') v:=by
 obtain⟨D,A⟩:=Q;have H:(cut rs q (q+m)).length=m:=by rw[Zdu _ _ _ (by omega)];omega
 rcases Ut m with h0|h0
 ·have e0:rs'=[]:=VS.1 (by omega);subst e0;obtain⟨z2,rs2,a1,base,cap,h1,h2,rfl,h4⟩:=Z;subst h0;exact⟨base,cap,rfl,UB _,.inl rfl⟩
 obtain⟨cap,b,vs,T,rfl,h5,h6,hm,⟨fz,hw,a2⟩,a3,a4,S⟩:=Zaj M O hn (by omega) Z;have U:∀o,¬Mut μ (h.take k) b o:=fun o=>by
  rintro(ho|⟨l2,k2,E,hm2,ho⟩)
  ·exact M.apart l b _ (Vb.1 O).1 hm ho
  obtain⟨a5,E⟩:=Zai E;have W:l2<h.length:=(Vb.1 E).1;have J:l<h.length:=(Vb.1 O).1;have e:=M.inj l2 l b W J hm2 hm;omega
 refine⟨_,cap,by rw[D,H],by omega,.inr ⟨b,q*z,z,rfl,PRows.of_at rs' (q*z) fun i row' G=>?_⟩⟩;obtain⟨row,d,g1,g2,g3⟩:=A i row' G;rw[Zdd]at d;split at d
 ·obtain⟨h1,a6,h3⟩:=S (q+i) row d;refine⟨by omega,g2,PMem.of_at row' _ fun c a' X=>?_⟩;obtain⟨a,ha,Y⟩:=g3 c a' X;obtain⟨u,hu,hp⟩:=h3 c a ha;refine⟨u,?_,U _,Y u hp⟩;simp only[World.cell?,hw];rw[show q*z+i*z+c=(q+i)*z+c by rw[Uj]];simpa using hu
 simp at d
theorem ZrS{rs:List (List AV)}(J:Rel μ h w)(G:h[l]?=some (.rows z rs wr))(S:rs.length=n)(M:rs'.length=rs.length∧∀(i:Nat) (row':List AV),rs'[i]?=some row'→∃row,rs[i]?=some row∧row'.length=row.length∧singles row'=true∧∀(c:Nat) (a':AV),row'[c]?=some a'→∃a,row[c]?=some a∧∀u,Rep μ h w a u→PRep (Mut μ (h.take k)) w a' u)(H:k≤l∨wr=false)(U:OwnRep μ h w l n v):
  PRep (Mut μ (h.take k)) w (.rows rs') v:=by
 refine Zse J G S M U (fun b o W=>Zfx W) fun b o D Q=>?_;rintro(A|⟨l2,k2,d,hm2,A⟩)
 ·exact J.apart l b _ (Vb.1 G).1 D A
 obtain⟨X,d⟩:=Zai d;have O:l2<h.length:=(Vb.1 d).1;have E:l<h.length:=(Vb.1 G).1;have e:=J.inj l2 l b O E hm2 D;subst e;rw[G]at d;simp only[Va]at d;subst d;rcases H with H|H
 ·omega
 rcases A with A|A
 ·rw[H]at A;simp at A
 rw[SD]at A;omega
theorem ZcV{o:Nat}(G:l<h.length)(E:Mut (μ.set l none) (h.set l .hole) b o):Mut μ h b o:=by
 rcases E with A|⟨l',k,D,u,A⟩
 ·exact .inl A
 by_cases d:l=l'
 ·subst d;rw[set_same]at u;simp at u
 rw[Zm _ (fun e=>d e.symm)]at u;rw[Vc d]at D;exact .inr ⟨l',k,D,u,A⟩
theorem Zq0{l l':Nat}(d:l'≠l):Wk μ h (μ.set l none) (h.set l .hole) (fun l=>l) l':=fun k u=>by refine⟨?_,Zm _ d⟩;rw[Zmf,Vc (fun e=>d e.symm)];exact u
theorem ZhO(u:l<h.length){a:AV}(A:l∉locs a)(r:Rep μ h w a v):Rep (μ.set l none) (h.set l .hole) w a v:=by
 have:=Rep.ren (μ':=μ.set l none) (h':=h.set l .hole) (σ:=fun l=>l) (fun b o D=>ZcV u D) a v (fun l' d=>Zq0 fun e=>A (e▸d)) r
 rwa [Zh8]at this
theorem ZsU(u:l<h.length){a:List AV}{v:List Value}(A:l∉Zg a)(r:RepL μ h w a v):RepL (μ.set l none) (h.set l .hole) w a v:=by
 have:=RepL.ren (μ':=μ.set l none) (h':=h.set l .hole) (σ:=fun l=>l) (fun b o D=>ZcV u D) a v (fun l' d=>Zq0 fun e=>A (e▸d)) r
 rwa [Jj]at this
theorem ZpX(d:l<h.length):Zcj (Mut μ h) w (Mut (μ.set l none) (h.set l .hole)) w:=fun _ _ _ e u=>⟨e,fun A=>u (ZcV d A)⟩
theorem Rel.toHole(G:Rel μ h w)(S:l<h.length)(X:l∉Zk h):Rel (μ.set l none) (h.set l .hole) w where
 inj:=fun Y Z b O Q A D=>by
  simp only[Vq]at O Q;by_cases d:Y=l
  ·subst d;rw[set_same]at A;simp at A
  by_cases h2:Z=l
  ·subst h2;rw[set_same]at D;simp at D
  rw[Zm _ d]at A;rw[Zm _ h2]at D;exact G.inj Y Z b O Q A D
 blk:=fun l' k H=>by
  by_cases J:l=l'
  ·subst J;rw[Vf S]at H;simp only[Va]at H;subst H;exact set_same _ _
  have u:l'≠l:=fun e=>J e.symm;rw[Vc J]at H;have:=G.blk l' k H;cases k with
  |cells cs =>
   obtain⟨b,vs,T,d,h2,h3,U⟩:=this;exact⟨b,vs,T,by rw[Zm _ u];exact d,h2,h3,ZsU S (fun W=>X (Wo H _ W)) U⟩
  |rows z rs wr =>
   rcases this with d|⟨b,vs,T,d,h2,h3,U⟩
   ·exact .inl ⟨d.1,by rw[Zm _ u];exact d.2⟩
   exact .inr ⟨b,vs,T,by rw[Zm _ u];exact d,h2,h3,U.each fun a v hi r=>ZhO S (fun W=>X (Wo H _ (hi _ W))) r⟩
  |hole =>
   show(μ.set l none) l'=none;rw[Zm _ u];exact this
  |map es =>
   obtain⟨b,ms,c,d,h2,h3⟩:=this;exact⟨b,ms,c,by rw[Zm _ u];exact d,h2,h3.keep (ZpX S)⟩
 apart:=fun l' b o M E ho=>by
  by_cases d:l'=l
  ·subst d;rw[set_same]at E;simp at E
  rw[Zm _ d]at E;exact G.apart l' b o (by simpa using M) E ho
 old:=G.old
 still:=fun b hb=>⟨(G.still b hb).1,fun l' M E=>by
  by_cases d:l'=l
  ·subst d;rw[set_same]at E;simp at E
  rw[Zm _ d]at E;exact(G.still b hb).2 l' (by simpa using M) E⟩
 base:=G.base
theorem Ext.toHole(e:Ext μ0 h0 w0 μ h w)(G:l<h.length)(S:h0.length≤l):Ext μ0 h0 w0 (μ.set l none) (h.set l .hole) w where
 out:=e.out
 still:=e.still
 os:=e.os
 tape:=e.tape
 output:=e.output
 size:=e.size
 len:=by simpa using e.len
 keep:=fun b o v H J=>by obtain⟨u,h2⟩:=e.keep b o v H J;exact⟨u,fun M=>h2 (ZcV G M)⟩
 outside:=fun b O Q=>by
  obtain⟨u,h2⟩:=e.outside b O Q;refine⟨u,fun l' d=>?_⟩;by_cases h3:l'=l
  ·subst h3;rw[set_same];simp
  rw[Zm _ h3];exact h2 l' (by simpa using d)
 cells:=fun l' cs d=>by obtain⟨⟨A,u⟩,h2⟩:=e.cells l' cs d;have:=(Vb.1 d).1;exact⟨⟨A,by rw[Vc (by omega)];exact u⟩,by rw[Zm _ (by omega)];exact h2⟩
 rows:=fun l' z rs wr d=>by obtain⟨rs',D,u,h2,h3⟩:=e.rows l' z rs wr d;have:=(Vb.1 d).1;exact⟨rs',D,by rw[Vc (by omega)];exact u,h2,fun q=>by rw[Zm _ (by omega)];exact h3 q⟩
 maps:=fun l' es d=>by obtain⟨⟨E,u⟩,h2⟩:=e.maps l' es d;have:=(Vb.1 d).1;exact⟨⟨E,by rw[Vc (by omega)];exact u⟩,by rw[Zm _ (by omega)];exact h2⟩
 sizes:=e.sizes
theorem Zab{t:Array Value}{k:Nat}{live:List Nat}(S:h0.length=k):∀(is:List Nat) (fr D:Fr) (h h':Za) (μ:Mp Bs),Rel μ h w→Ext μ0 h0 w0 μ h w→FrRel μ h w fr t→frz k live is fr h=some (D,h')→∃μ',Rel μ' h' w∧Ext μ0 h0 w0 μ' h' w∧FrRel μ' h' w D t
 |[],fr,D,h,h',μ,E,O,H,e=>by simp only[frz,Va,Vp]at e;obtain⟨rfl,rfl⟩:=e;exact⟨μ,E,O,H⟩
 |i::is,fr,D,h,h',μ,E,O,H,e=>by
  have cons:∀{rs:List (List AV)},PRep (Mut μ h) w (.rows rs) (t.getD i undef)→FrRel μ h w ((i,.rows rs)::fr) t:=fun{rs} X j=>by
   simp only[get];split
   ·rename_i u;subst u;exact Rep.pure _ _ X
   exact H j
  simp only[frz]at e;split at e
  ·rename_i l n A;split at e
   ·rename_i z rs wr hl;split at e
    ·rename_i hc;obtain⟨c1,c2,cz,c3,c4⟩:=hc;have d:l<h.length:=(Vb.1 hl).1;have Y:l∉Qv (restr ((i,.rows rs)::fr) live):=by simpa using c3
     have Z:l∉Zk h:=by simpa using c4
     have J:=H i;rw[A]at J;have X:PRep (Mut (μ.set l none) (h.set l .hole)) w (.rows rs) (t.getD i undef):=Zty E hl c1 cz J (fun b o A=>ZcV d A) fun b o hm _ A=>by
      rcases A with ho|⟨l',k',Q,G,_⟩
      ·exact E.apart l b o d hm ho
      by_cases U:l'=l
      ·subst U;rw[set_same]at G;simp at G
      rw[Zm _ U]at G;rw[Vc (fun e=>U e.symm)]at Q;exact U (E.inj l' l b (Vb.1 Q).1 d G hm)
     refine Zab S is _ _ _ _ _ (E.toHole d Z) (O.toHole d (by omega)) (fun j=>?_) e;have W:l∉locs (get (restr ((i,.rows rs)::fr) live) j):=fun A=>Y (FrRel.cut.get_locs _ _ _ A);rcases ZfV ((i,.rows rs)::fr) live j with e1|e1
     ·rw[e1]at W ⊢;simp only[get]at W ⊢;split
      ·rename_i u;subst u;exact Rep.pure _ _ X
      rename_i u;simp only[u,UA]at W;exact ZhO d W (H j)
     rw[e1];exact trivial
    simp at e
   simp at e
  ·rename_i A;have J:=H i;rw[A]at J;have M:t.getD i undef=.slice none 0 0:=J;exact Zab S is _ _ _ _ _ E O ((cons (rs:=[]) ⟨none,0,M,Vw _,.inl rfl⟩).restr live) e
  ·rename_i rs A;have J:=H i;rw[A]at J;obtain⟨base,M,hb⟩:=J;exact Zab S is _ _ _ _ _ E O ((cons ⟨base,rs.length,M,Vw _,hb⟩).restr live) e
  exact Zab S is _ _ _ _ _ E O H e
def Zg2(μ:Mp Bs)(h:Za)(w:World)(k:Nat)(sub:List (List AV)→Option (List (List AV))):Prop :=
 ∀rs rs',(∀(i:Nat) (row:List AV),rs[i]?=some row→singles row=true)→sub rs=some rs'→rs'.length=rs.length∧∀(i:Nat) (row':List AV),rs'[i]?=some row'→∃row,rs[i]?=some row∧row'.length=row.length∧singles row'=true∧∀(c:Nat) (a':AV),row'[c]?=some a'→∃a,row[c]?=some a∧∀u,Rep μ h w a u→PRep (Mut μ (h.take k)) w a' u
theorem ZgA(A:Rel μ h w)(D:h[l]?=some (.rows z rs wr)):∀(i:Nat) (row:List AV),rs[i]?=some row→singles row=true:=fun i row d=>by
 rcases A.blk l _ D with⟨h0,_⟩|⟨b',E,T',G,_,u,e⟩
 ·rw[h0.at d];rfl
 exact(e i row d).2.1
mutual
theorem JY(H:Rel μ h w){keep:Bool}{k:Nat}{sub:List (List AV)→Option (List (List AV))}(d:Zg2 μ h w k sub):∀(a a':AV) (v:Value),Yx sub keep k h a=some a'→Rep μ h w a v→Rep μ (h.take k) w a' v
 |.own l n,a',v,e,r=>by
  simp only[Yx]at e;split at e
  ·rename_i z rs wr G;split at e
   ·rename_i J;split at e
    ·rename_i rs2 M;simp only[Va]at e;subst e;exact Rep.pure _ _ (ZrS H G J.1 (d rs rs2 (fun i row u=>ZgA H G i row u) M) J.2 r)
    simp at e
   simp at e
  simp at e
 |.nils,a',v,e,r=>by
  simp only[Yx,Va]at e;subst e;have:v=.slice none 0 0:=r;subst this;cases keep with
  |true=>exact rfl
  |false=>exact⟨none,0,rfl,Vw _,.inl rfl⟩
 |.lit rs,a',v,e,r=>by simp only[Yx,Va]at e;subst e;obtain⟨base,E,Q⟩:=PRep.keep (Zaa (n:=k)) (.lit rs) v r;exact⟨base,rs.length,E,Vw _,Q⟩
 |.agg cs,a',v,e,r=>by
  simp only[Yx]at e;split at e
  ·rename_i A D;simp only[Va]at e;subst e;obtain⟨vs,E,r⟩:=r;exact⟨vs,E,W7 H d cs A vs D r⟩
  simp at e
 |.tup cs,a',v,e,r=>by
  simp only[Yx]at e;split at e
  ·rename_i A D;simp only[Va]at e;subst e;obtain⟨vs,E,r⟩:=r;exact⟨vs,E,W7 H d cs A vs D r⟩
  simp at e
 |.fn _ cs,a',v,e,r=>by
  simp only[Yx]at e;split at e
  ·rename_i A D;simp only[Va]at e;subst e;obtain⟨vs,E,r⟩:=r;exact⟨vs,E,W7 H d cs A vs D r⟩
  simp at e
 |.bnd _ cs,a',v,e,r=>by
  simp only[Yx]at e;split at e
  ·rename_i A D;simp only[Va]at e;subst e;obtain⟨vs,E,r⟩:=r;exact⟨vs,E,W7 H d cs A vs D r⟩
  simp at e
 |.iface _ a,a',v,e,r=>by
  simp only[Yx]at e;split at e
  ·rename_i S U;simp only[Va]at e;subst e;obtain⟨x,E,r⟩:=r;exact⟨x,E,JY H d a S x U r⟩
  simp at e
 |.ptr l o,a',v,e,r=>by
  simp only[Yx]at e;split at e
  ·rename_i G;simp only[Va]at e;subst e;exact Rep.cut (fun i hi=>by simp[locs]at hi;omega) r
  simp at e
 |.town _ _ _,_,_,e,_=>by simp[Yx]at e
 |.vw l n q m,a',v,e,r=>by
  simp only[Yx]at e;split at e
  ·rename_i G;simp only[Va]at e;subst e;exact Rep.cut (fun i hi=>by simp[locs]at hi;omega) r
  rename_i O;split at e
  ·rename_i z rs wr G;split at e
   ·rename_i J;split at e
    ·rename_i rs' hs;simp only[Va]at e;subst e;refine Rep.pure _ _ (Zpq H G J.1 J.2 O (d _ rs' (fun i row u=>?_) hs) r);rw[Zdd]at u;split at u
     ·exact ZgA H G _ row u
     simp at u
    simp at e
   simp at e
  simp at e
 |.tptr t l o,a',v,e,r=>by
  simp only[Yx]at e;split at e
  ·rename_i G;simp only[Va]at e;subst e;exact Rep.cut (fun i hi=>by simp[locs]at hi;omega) r
  simp at e
 |.mp l,a',v,e,r=>by
  simp only[Yx]at e;split at e
  ·rename_i G;simp only[Va]at e;subst e;exact Rep.cut (fun i hi=>by simp[locs]at hi;omega) r
  simp at e
 |.optr l n i o,a',v,e,r=>by
  simp only[Yx]at e;split at e
  ·rename_i G;simp only[Va]at e;subst e;exact Rep.cut (fun i hi=>by simp[locs]at hi;omega) r
  simp at e
 |.int _ _,_,_,e,r| .bool _,_,_,e,r| .str _,_,_,e,r| .nilp,_,_,e,r| .nilf,_,_,e,r| .nili,_,_,e,r| .emp _,_,_,e,r| .nilm,_,_,e,r=>by simp only[Yx,Va]at e;subst e;exact r
 |.rows rs,_,v,e,r=>by simp only[Yx,Va]at e;subst e;exact PRep.keep Zaa (.rows rs) v r
 |.rptr row o,_,v,e,r=>by simp only[Yx,Va]at e;subst e;exact PRep.keep Zaa (.rptr row o) v r
 |.any,_,_,e,_=>by simp only[Yx,Va]at e;subst e;exact trivial
theorem W7(u:Rel μ h w){keep:Bool}{k:Nat}{sub:List (List AV)→Option (List (List AV))}(d:Zg2 μ h w k sub):∀(l l':List AV) (vs:List Value),Yl sub keep k h l=some l'→RepL μ h w l vs→RepL μ (h.take k) w l' vs
 |[],_,_,e,r=>by simp only[Yl,Va]at e;subst e;exact r
 |a::r,l',vs,e,x=>by
  simp only[Yl]at e;split at e
  ·rename_i D E;split at e
   ·rename_i G h2;simp only[Va]at e;subst e;obtain⟨v,A,H,J,M⟩:=x;exact⟨v,A,H,JY u d a D v E J,W7 u d r G A h2 M⟩
   simp at e
  simp at e
end
theorem Zgb{f:List (List AV)→Option (List (List AV))}(D:Zg2 μ h w k f):Zg2 μ h w k (XW f):=fun rs rs' hs e=>by
 unfold XW at e;split at e
 ·rename_i E;simp only[Va]at e;subst e;refine⟨rfl,fun i row d=>⟨row,d,rfl,hs i row d,fun c a A=>⟨a,A,fun u G=>?_⟩⟩⟩;exact PRep.keep Zaa a u (Rep.none a u (ZbB (Zdm E (Ve d)) (Ve A)) G)
 exact D rs rs' hs e
theorem Ziw{keep:Bool}{k:Nat}{sub:List (List AV)→Option (List (List AV))}:∀(l l':List AV),Yl sub keep k h l=some l'→∀(c:Nat) (a':AV),l'[c]?=some a'→∃a,l[c]?=some a∧Yx sub keep k h a=some a'
 |[],_,e,c,a',d=>by simp only[Yl,Va]at e;subst e;simp at d
 |a::r,l',e,c,a',d=>by
  simp only[Yl]at e;split at e
  ·rename_i G u;split at e
   ·rename_i A h2;simp only[Va]at e;subst e;cases c with
    |zero=>simp only[Vt,Va]at d;subst d;exact⟨a,rfl,u⟩
    |succ c =>
     obtain⟨x,D,E⟩:=Ziw r A h2 c a' (by simpa using d);exact⟨x,by simpa using D,E⟩
   simp at e
  simp at e
theorem ZbF(J:Rel μ h w){keep:Bool}{k:Nat}{sub:List (List AV)→Option (List (List AV))}(D:Zg2 μ h w k sub):Zg2 μ h w k (Yp (Yl sub keep k h))
 |[],rs',_,e=>by simp only[Yp,Va]at e;subst e;exact⟨rfl,fun i row A=>by simp at A⟩
 |row::r,rs',hs,e=>by
  simp only[Yp]at e;split at e
  ·rename_i M Q;split at e
   ·rename_i E;split at e
    ·rename_i S h2;simp only[Va]at e;subst e;obtain⟨U,W⟩:=ZbF J D r S (fun i row A=>hs (i+1) row (by simpa using A)) h2;refine⟨by simp[U],fun i row' d=>?_⟩;cases i with
     |zero =>
      simp only[Vt,Va]at d;subst d;refine⟨row,rfl,E.2.1,E.2.2,fun c a' O=>?_⟩;obtain⟨a,G,H⟩:=Ziw _ _ Q c a' O;exact⟨a,G,fun u X=>Rep.none a' u (ZbB E.1 (Ve O)) (JY J D a a' u H X)⟩
     |succ i =>
      obtain⟨x,Y,H⟩:=W i row' (by simpa using d);exact⟨x,by simpa using Y,H⟩
    simp at e
   simp at e
  simp at e
theorem Zzc:Zg2 μ h w k (fun _=>none):=fun _ _ _ e=>by simp at e
theorem Zsa(d:Rel μ h w){keep:Bool}{k:Nat}:Zg2 μ h w k (ZpE keep k h) :=
 Zgb (ZbF d (Zgb (ZbF d (Zgb Zzc))))
theorem ZgY(d:Rel μ h w){keep:Bool}{k:Nat}(a a':AV)(v:Value)(e:Zj4 keep k h a=some a')(r:Rep μ h w a v):Rep μ (h.take k) w a' v:=JY d (Zsa d) a a' v e r
theorem ZpU(O:Rel μ h w)(e:Ext μ0 h0 w0 μ h w)(a8:h0.length=k)(hu:Zi k (Zk (h.take k))=true)(hl:h[l]?=some (.rows z rs wr))(hn:rs.length=n)(hk:k≤l)(a2:Zz rs=[])(hv:OwnRep μ h w l n v):
  ∃μ',Rel μ' (h.take k++[.rows z rs wr]) w∧Ext μ0 h0 w0 μ' (h.take k++[.rows z rs wr]) w∧Rep μ' (h.take k++[.rows z rs wr]) w (.own k n) v:=by
 have Q:l<h.length:=(Vb.1 hl).1;have A:(h.take k).length=k:=by simp;omega
 have G:∀i,i<k→(h.take k++[Blk.rows z rs wr])[i]?=(h.take k)[i]?:=fun i hi=>Vh (by omega);have S:(h.take k++[Blk.rows z rs wr])[k]?=some (.rows z rs wr):=by rw[Vy (by omega),A];simp
 have D:∀b o,Mut (μ.set k (μ l)) (h.take k++[Blk.rows z rs wr]) b o→Mut μ h b o:=by
  rintro b o (W|⟨i,b',hi,H,W⟩)
  ·exact .inl W
  by_cases d:i=k
  ·subst d;rw[set_same]at H;rw[S]at hi;simp only[Va]at hi;subst hi;exact .inr ⟨l,_,hl,H,W⟩
  have X:i<k:=by have:=(Vb.1 hi).1;simp only[Vu,A,Uo]at this;omega
  rw[G i X]at hi;rw[Zm _ d]at H;exact .inr ⟨i,b',(Zai hi).2,H,W⟩
 have E:Zcj (Mut μ h) w (Mut (μ.set k (μ l)) (h.take k++[Blk.rows z rs wr])) w:=fun b o v hc H=>⟨hc,fun hx=>H (D b o hx)⟩;have a1:∀i,i<k→Wk μ h (μ.set k (μ l)) (h.take k++[Blk.rows z rs wr]) (fun l=>l) i:=fun i hi k' a3 =>
  ⟨by rw[Zmf];show(h.take k++[Blk.rows z rs wr])[i]?=some k';rw[G i hi,ZeZ hi];exact a3,Zm (l:=k) (i:=i) _ (by omega)⟩
 refine⟨μ.set k (μ l),⟨?_,?_,?_,?_,?_,O.base⟩,?_,?_⟩
 ·intro i j b hi hj J M;simp only[Vu,A,Uo]at hi hj;by_cases u:i=k<;>by_cases h2:j=k
  ·omega
  ·subst u;rw[set_same]at J;rw[Zm _ h2]at M;have:=O.inj l j b Q (by omega) J M;omega
  ·subst h2;rw[set_same]at M;rw[Zm _ u]at J;have:=O.inj l i b Q (by omega) M J;omega
  rw[Zm _ u]at J;rw[Zm _ h2]at M;exact O.inj i j b (by omega) (by omega) J M
 ·intro i b' hi;by_cases d:i=k
  ·subst d;rw[S]at hi;simp only[Va]at hi;subst hi;rcases O.blk l _ hl with⟨u,h2⟩|⟨b,vs,T,u,h2,h3,Y⟩
   ·exact .inl ⟨u,by rw[set_same];exact h2⟩
   exact .inr ⟨b,vs,T,by rw[set_same];exact u,h2,h3,((Y.none a2).keep E).some⟩
  have X:i<k:=by have:=(Vb.1 hi).1;simp only[Vu,A,Uo]at this;omega
  rw[G i X]at hi;have a4:=(Zai hi).2;have:=O.blk i b' a4;cases b' with
  |cells cs =>
   obtain⟨b,vs,T,u,h2,h3,Y⟩:=this;refine⟨b,vs,T,by rw[Zm _ d];exact u,h2,h3,?_⟩;have:=RepL.ren (μ':=μ.set k (μ l)) (h':=h.take k++[Blk.rows z rs wr]) (σ:=fun l=>l) D cs vs (fun j hj=>a1 j (YI hu j (Wo hi j hj))) Y
   rwa [Jj]at this
  |rows z' rs' Z =>
   rcases this with u|⟨b,vs,T,u,h2,h3,Y⟩
   ·exact .inl ⟨u.1,by rw[Zm _ d];exact u.2⟩
   refine .inr ⟨b,vs,T,by rw[Zm _ d];exact u,h2,h3,Y.each fun a v hx r=>?_⟩;have:=Rep.ren (μ':=μ.set k (μ l)) (h':=h.take k++[Blk.rows z rs wr]) (σ:=fun l=>l) D a v (fun j hj=>a1 j (YI hu j (Wo hi j (hx j hj)))) r
   rwa [Zh8]at this
  |hole =>
   show(μ.set k (μ l)) i=none;rw[Zm _ d];exact this
  |map es =>
   obtain⟨b,ms,c,u,h2,h3⟩:=this;exact⟨b,ms,c,by rw[Zm _ d];exact u,h2,h3.keep E⟩
 ·intro i b o hi H W;simp only[Vu,A,Uo]at hi;by_cases d:i=k
  ·subst d;rw[set_same]at H;exact O.apart l b o Q H W
  rw[Zm _ d]at H;exact O.apart i b o (by omega) H W
 ·exact O.old
 ·intro b hb;refine⟨(O.still b hb).1,fun i hi=>?_⟩;simp only[Vu,A,Uo]at hi;by_cases d:i=k
  ·subst d;rw[set_same];exact(O.still b hb).2 l Q
  rw[Zm _ d];exact(O.still b hb).2 i (by omega)
 ·have U:=e.cut (n:=k) (by omega);exact{
   out:=U.out
   still:=U.still
   os:=U.os
   tape:=U.tape
   output:=U.output
   size:=U.size
   keep:=fun b o v hc H=>by obtain⟨u,h2⟩:=e.keep b o v hc H;exact⟨u,fun hx=>h2 (D b o hx)⟩
   outside:=fun b hb W=>by
    obtain⟨u,h2⟩:=e.outside b hb W;refine⟨u,fun i hi=>?_⟩;simp only[Vu,A,Uo]at hi;by_cases d:i=k
    ·subst d;rw[set_same];exact h2 l Q
    rw[Zm _ d];exact h2 i (by omega)
   cells:=fun i cs hi=>by obtain⟨⟨a5,u⟩,h2⟩:=U.cells i cs hi;have:=(Vb.1 hi).1;exact⟨⟨a5,by rw[G i (by omega)];exact u⟩,by rw[Zm _ (by omega)];exact h2⟩
   rows:=fun i z rs wr hi=>by obtain⟨rs',Z,u,h2,h3⟩:=U.rows i z rs wr hi;have:=(Vb.1 hi).1;exact⟨rs',Z,by rw[G i (by omega)];exact u,h2,fun q=>by rw[Zm _ (by omega)];exact h3 q⟩
   len:=by simp only[Vu,A,Uo];omega
   maps:=fun i es hi=>by obtain⟨⟨a6,u⟩,h2⟩:=U.maps i es hi;have:=(Vb.1 hi).1;exact⟨⟨a6,by rw[G i (by omega)];exact u⟩,by rw[Zm _ (by omega)];exact h2⟩
   sizes:=U.sizes}
 obtain⟨z',rs',Z,base,cap,a0,a7,rfl,hv⟩:=hv;rw[hl]at a0;simp only[Va,Blk.rows.injEq]at a0;obtain⟨rfl,rfl,rfl⟩:=a0;refine⟨z,rs,wr,base,cap,S,a7,rfl,fun q=>?_⟩;obtain⟨u,h2,h3⟩:=hv q;refine⟨u,h2,?_⟩;rcases h3 with h3|⟨b,vs,T,h3,Y,h5⟩
 ·exact .inl h3
 exact .inr ⟨b,vs,T,h3,by rw[set_same];exact Y,h5⟩
end
section
variable{Bs:World→Prop}
theorem ZtZ(D:Ww Bs P F):Ww Bs P (lv F):=by
 intro g args h r h' e;unfold lv at e;split at e
 ·rename_i U E u;simp only[Tk.call.injEq]at u;obtain⟨rfl,rfl,rfl⟩:=u;unfold lvR at e;split at e
  ·rename_i H d;simp only[Va,Vp]at e;obtain⟨rfl,rfl⟩:=e;exact D _ _ _ _ _ d
  ·rename_i H b hs d;split at e
   ·rename_i a J;simp only[Va,Vp]at e;obtain⟨rfl,rfl⟩:=e;obtain⟨M,h2⟩:=D _ _ _ _ _ d;refine⟨M,fun μ w vs hr hv=>(h2 μ w vs hr hv).mono ?_⟩;rintro e w' ⟨v,μ',O,G,Q,S⟩;have A:Rel μ' ((b::hs).take 0) w':=G.cut rfl;exact⟨v,μ',O,A,Q.cut (Vw _),ZgY G _ _ _ J S⟩
   simp at e
  simp at e
 exact D _ _ _ _ _ e
def ZCE(dy:List (Nat×Nat))(i j:Nat):Option (Nat×Nat)→Bool
 |some (p,q)=>dy.contains (j,p)&&dy.contains (i,q)
 |none=>false
def ZfX(dy:List (Nat×Nat))(i j:Nat)(oi oj:Oper):Bool :=
 if isQ dy i oi.op=true then(if isQ dy j oj.op=true then true else alo oj.op||(XY oi.op).all fun s=>dy.contains (j,s))
 else if isQ dy j oj.op=true then alo oi.op||(XY oj.op).all fun s=>dy.contains (i,s)
 else(alo oi.op&&alo oj.op)||((ZrW oi.op&&alo oj.op)||((alo oi.op&&ZrW oj.op)||((ZeR oi oj&&((XY oi.op).all (fun s=>dy.contains (j,s))&&(XY oj.op).all fun s=>dy.contains (i,s)))||ZCE dy i j (ZiA oi oj))))
def bit(B:List (List Nat))(j i:Nat):Bool:=(B.getD j []).contains i
structure Ordered(dy:List (Nat×Nat))(ops:Array Oper)(B:List (List Nat)):Prop where
 cert:∀(j:Nat) (o:Oper),ops[j]?=some o→∀i,bit B j i=true→∃e,e∈o.after∧Region.binds .any e=true∧(e.on=i∨bit B e.on i=true)
 pair:∀(i j:Nat) (oi oj:Oper),i<j→ops[i]?=some oi→ops[j]?=some oj→bit B j i=true∨(Oper.apart ops oi oj=true∧ZfX dy i j oi oj=true)
 dst:∀(i j:Nat) (oi oj:Oper) (d:Nat),ops[i]?=some oi→ops[j]?=some oj→oi.dst=some d→oj.dst=some d→i=j
 reads:∀(j:Nat) (o:Oper),ops[j]?=some o→∀s,s∈XY o.op→∀(k:Nat) (ok:Oper),ops[k]?=some ok→ok.dst=some s→bit B j k=true
 lex:∀(j:Nat) (o:Oper),ops[j]?=some o→∀e,e∈o.after→Region.binds .any e=true→e.on<j
end
section
variable{Bs:World→Prop}
variable{μ:Mp Bs}{h:Za}{w:World}
mutual
/-- No value names a place that is not filled yet. -/
theorem Rep.solid:∀(a:AV) (v:Value),Rep μ h w a v→∀l,l∈locs a→h[l]?≠some .hole
 |.agg cs,_,r,l,d=>by obtain⟨vs,u,r⟩:=r;exact RepL.solid cs vs r l d
 |.tup cs,_,r,l,d=>by obtain⟨vs,u,r⟩:=r;exact RepL.solid cs vs r l d
 |.fn _ cs,_,r,l,d=>by obtain⟨vs,u,r⟩:=r;exact RepL.solid cs vs r l d
 |.bnd _ cs,_,r,l,d=>by obtain⟨vs,u,r⟩:=r;exact RepL.solid cs vs r l d
 |.iface _ a,_,r,l,d=>by obtain⟨x,u,r⟩:=r;exact Rep.solid a x r l d
 |.ptr _ _,_,r,l,d=>by obtain⟨cs,b,e,_⟩:=r;simp only[locs,VH]at d;subst d;rw[e];simp
 |.own _ _,_,r,l,d=>by obtain⟨_,_,_,_,_,e,_⟩:=r;simp only[locs,VH]at d;subst d;rw[e];simp
 |.optr _ _ _ _,_,r,l,d=>by obtain⟨_,_,_,_,e,_⟩:=r;simp only[locs,VH]at d;subst d;rw[e];simp
 |.mp _,_,r,l,d=>by obtain⟨_,_,e,_⟩:=r;simp only[locs,VH]at d;subst d;rw[e];simp
 |.tptr _ _ _,_,r,l,d=>by obtain⟨_,_,e,_⟩:=r;simp only[locs,VH]at d;subst d;rw[e];simp
 |.town _ _ _,_,r,l,d=>by obtain⟨_,_,_,_,_,e,_⟩:=r;simp only[locs,VH]at d;subst d;rw[e];simp
 |.vw _ _ _ _,_,r,l,d=>by obtain⟨_,_,_,_,_,e,_⟩:=r;simp only[locs,VH]at d;subst d;rw[e];simp
 |.int _ _,_,_,_,d| .bool _,_,_,_,d| .str _,_,_,_,d| .nilp,_,_,_,d| .nilf,_,_,_,d| .nili,_,_,_,d| .emp _,_,_,_,d| .nilm,_,_,_,d| .nils,_,_,_,d| .rows _,_,_,_,d| .lit _,_,_,_,d| .rptr _ _,_,_,_,d| .any,_,_,_,d=>by simp[locs]at d
theorem RepL.solid:∀(c:List AV) (vs:List Value),RepL μ h w c vs→∀l,l∈Zg c→h[l]?≠some .hole
 |[],_,_,_,d=>by simp[Zg]at d
 |a::r,_,x,l,d=>by
  obtain⟨v,e,A,u,h2⟩:=x;simp only[Zg,Vg]at d;rcases d with d|d
  ·exact Rep.solid a v u l d
  exact RepL.solid r e h2 l d
end
end
section
variable{Bs:World→Prop}
variable{C:Cfg}{F:Tk→Res}{dy:List (Nat×Nat)}{pl:Nat→Nat}{ops:Array Oper}{B:List (List Nat)}{N:Nat}
def Real(Bs:World→Prop)(N:Nat)(g:Nat→AV)(h:Za):Prop:=∃(μ:Mp Bs) (w:World) (t:Array Value),t.size=N∧Rel μ h w∧∀i,Rep μ h w (g i) (t.getD i undef)
theorem Ziq{R:Prop}(h:o.wp P a w (fun _ _=>R) (fun _ _ _=>False)):R:=by
 unfold Oper.wp at h;generalize(execOp a.eval o).run P w=r at h;cases r with
 |ok n w' =>
  cases n with
  |value v| skip| defer d=>exact h
  |enter f args =>
   obtain⟨e,A,fr,u,_⟩:=h [];cases e with
   |returned v=>exact u
   |panicked c=>exact u.elim
   |outgrown=>obtain⟨_,_,D⟩:=u;exact D.elim
  |row row args =>
   obtain⟨v,A,u,_⟩:=h (Frame.ofRow P row args .normal) [];exact u
  |_=>exact False.elim h
 |halt x w'=>cases x<;>exact False.elim h
theorem Zoy{ev:Operand→AV}{μ:Mp Bs}{h:Za}(A:Ww Bs C.P F)(d:Rel μ h w)(u:XF μ h w ev a.eval)(e:XP C F dy pl i ev h o.op=some (x,h')):Wb C.P o a μ h w x h':=by
 unfold XP at e;split at e
 ·cases D:ZP C (lv F) ev h o.op with
  |none=>simp[D,val]at e
  |some v =>
   simp only[D,val,Va,Vp]at e;obtain⟨rfl,rfl⟩:=e;exact Zc9 (ZtZ A) d u D
 split at e
 ·exact ZpS d u e
 split at e
 ·exact Znv A d u e
 exact ZgS (C:=C.shut) A d u e
def FrG(μ:Mp Bs)(h:Za)(w:World)(g:Nat→AV)(t:Array Value):Prop:=∀i,Rep μ h w (g i) (t.getD i undef)
theorem Zyx{μ:Mp Bs}{h:Za}(d:FrG μ h w g a.tmps):XF μ h w (evF g) a.eval:=fun y=>by
 cases y with
 |tmp t=>exact d t
 |const v=>exact Rep.pure _ _ (X9 v)
 |func f=>exact⟨[],rfl,rfl⟩
 |global g=>trivial
theorem FrG.put{μ:Mp Bs}{h:Za}{w:World}{g:Nat→AV}{a:Act}{d:Option Nat}{x:AV}{v:Value}(r:FrG μ h w g a.tmps)(u:∀i,d=some i→i<a.tmps.size)(A:Rep μ h w x v):FrG μ h w (Za3 g d x) (a.put d v).tmps:=by
 cases d with
 |none=>exact r
 |some i =>
  intro j;have hi:=u i rfl;by_cases e:i=j
  ·subst e;simp only[Za3,V7,Act.put];simpa[Array.getD,hi]using A
  simp only[Za3,Vm e,Act.put];have:(a.tmps.setIfInBounds i v).getD j undef=a.tmps.getD j undef:=by simp only[UN];rw[UO e]
  rw[this];exact r j
theorem FrG.ext{μ μ':Mp Bs}{h h':Za}{w w':World}(e:Ext μ h w μ' h' w'){g:Nat→AV}{t:Array Value}(r:FrG μ h w g t):FrG μ' h' w' g t:=fun i=>Rep.ext e _ _ (r i)
theorem ZlM{μ:Mp Bs}{h:Za}{b:Bool}(W:FrG μ h w g t)(e:WJ ops g o=some b):Region.wanted o (yielded ops t)=b:=by
 unfold WJ at e;unfold Region.wanted;split at e
 ·rename_i M;simp only[Va]at e;subst e;simp only[M]
 rename_i j E M;simp only[M];have A:∀{v:AV},ZgX g (Wu ops.toList j)=v→v≠.any→∃oj d,ops[j]?=some oj∧oj.dst=some d∧g d=v:=by
  intro v u G;unfold Wu at u;simp only[U4]at u;cases X:ops[j]? with
  |none=>simp[X,ZgX]at u;exact absurd u.symm G
  |some oj =>
   simp only[X]at u;cases O:oj.dst with
   |none=>simp[O,ZgX]at u;exact absurd u.symm G
   |some d=>simp only[O,ZgX]at u;exact⟨oj,d,rfl,O,u⟩
 split at e
 ·rename_i c Q;simp only[Va]at e;subst e;obtain⟨oj,d,J,h2,h3⟩:=A Q (by simp);have H:=W d;rw[h3]at H;have D:t.getD d undef=.bool c:=H;have S:yielded ops t j=some c:=by
   unfold yielded;rw[UN]at D;cases u:t[d]? with
   |none=>simp[u,undef]at D
   |some v =>
    simp only[u,VP]at D;subst D;simp[J,h2,u]
  rw[S];cases c<;>cases E<;>rfl
 ·rename_i Q;simp only[Va]at e;subst e;obtain⟨oj,d,J,h2,h3⟩:=A Q (by simp);have H:=W d;rw[h3]at H;obtain⟨vs,D,Y⟩:=H;have U:vs=[]:=Y;subst U;have S:yielded ops t j=none:=by
   unfold yielded;rw[UN]at D;cases u:t[d]? with
   |none=>simp[J,h2,u]
   |some v =>
    simp only[u,VP]at D;subst D;simp[J,h2,u]
  rw[S];rfl
 simp at e
theorem Zjp{h:Za}{μ:Mp Bs}{Q:Exit→Act→World→Prop}{K:Act→World→Prop}(J:Ww Bs C.P F)(E:ops[i]?=some o)
  (u:∀d,o.dst=some d→d<a.tmps.size) (G:Rel μ h w) (A:FrG μ h w g a.tmps) (e:Yj C F dy pl ops i g h=some (x,h',T))
  (H:∀v μ' w',Rel μ' h' w'→Ext μ h w μ' h' w'→FrG μ' h' w' (Za3 g o.dst x) (a.put o.dst v).tmps→K (a.put o.dst v) w'):wpOp C.P ops Q i K a w:=by
 unfold Yj at e;simp only[E]at e;unfold wpOp;simp only[E];cases D:WJ ops g o with
 |none=>simp[D]at e
 |some b =>
  rw[ZlM A D];cases b with
  |true =>
   simp only[D]at e;split at e
   ·rename_i y M hs;simp only[Va,Vp]at e;obtain⟨rfl,rfl,_⟩:=e;refine .inl (Zoy J G (Zyx A) hs _ _ ?_);intro v μ' w' q1 q2 q3;exact H v μ' w' q1 q2 ((A.ext q2).put u q3)
   simp at e
  |false =>
   simp only[D,Va,Vp]at e;obtain⟨rfl,rfl,_⟩:=e;exact H undef μ w G (Ext.refl _ _ _) (A.put u Zka)
theorem Real.step{h:Za}(E:Ww Bs C.P F)(u:ops[i]?=some o)(d:OpsFit N ops)(r:Real Bs N g h)(e:Yj C F dy pl ops i g h=some (x,h',T)):Real Bs N (Za3 g o.dst x) h':=by
 obtain⟨μ,w,t,D,G,H⟩:=r;have:=Zjp (Q:=fun _ _ _=>False) (K:=fun _ _=>Real Bs N (Za3 g o.dst x) h') (a:=⟨t,[]⟩) E u (by rw[D];exact d i o u) G H e
  (fun v μ' w' q1 q2 q3=>⟨μ',w',_,by rw[We];exact D,q1,q3⟩)
 unfold wpOp at this;simp only[u]at this;split at this
 ·rcases this with A|⟨_,_,_,A⟩
  ·exact Ziq A
  exact A.elim
 exact this
theorem Real.solid{g:Nat→AV}{h:Za}(r:Real Bs N g h){s l:Nat}(d:l∈locs (g s)):h[l]?≠some .hole:=by obtain⟨μ,w,t,_,_,e⟩:=r;exact Rep.solid _ _ (e s) l d
theorem Znz:∀{l:List AV} {x:Nat},x∈Zg l→∃(c:Nat) (a:AV),l[c]?=some a∧x∈locs a
 |[],x,d=>by simp[Zg]at d
 |a::r,x,d=>by
  simp only[Zg,Vg]at d;rcases d with d|d
  ·exact⟨0,a,rfl,d⟩
  obtain⟨c,a',e,h2⟩:=Znz d;exact⟨c+1,a',by simpa using e,h2⟩
theorem Real.blocks{h:Za}(r:Real Bs N g h)(E:h[p]?=some .hole):∀(l:Nat) (k:Blk),h[l]?=some k→p∉ZA k:=fun l k H d=>by
 obtain⟨μ,w,t,_,J,_⟩:=r;have G:=J.blk l k H;cases k with
 |cells cs =>
  obtain⟨b,vs,T,_,_,_,e⟩:=G;exact RepL.solid cs vs e p d E
 |rows z rs wr =>
  rcases G with⟨A,_⟩|⟨b,vs,T,_,_,_,e⟩
  ·rw[show ZA (.rows z rs wr)=[]from A.locs]at d;simp at d
  have M:∀rs:List (List AV),p∈Zz rs→∃(i:Nat) (row:List AV),rs[i]?=some row∧p∈Zg row:=by
   intro rs
   induction rs with
   |nil=>intro d;simp[Zz]at d
   |cons row r O =>
    intro d;simp only[Zz,Vg]at d;rcases d with d|d
    ·exact⟨0,row,rfl,d⟩
    obtain⟨i,row',A,h2⟩:=O d;exact⟨i+1,row',by simpa using A,h2⟩
  obtain⟨i,row,Q,S⟩:=M rs d;obtain⟨_,_,U⟩:=e i row Q;obtain⟨c,a,W,X⟩:=Znz S;obtain⟨u,_,D⟩:=U c a W;exact Rep.solid a u D p X E
 |hole| map es=>simp[ZA]at d
theorem Real.hole{i:Nat}{o:Oper}{g:Nat→AV}{h h':Za}{x:AV}{T:List Nat}(E:Ww Bs C.P F)(D:ops[i]?=some o)(u:OpsFit N ops)(r:Real Bs N g h)(e:Yj C F dy pl ops i g h=some (x,h',T)):∀p,p<h.length→h'[p]?=some .hole→h[p]?=some .hole:=by
 obtain⟨μ,w,t,G,H,J⟩:=r;have:=Zjp (Q:=fun _ _ _=>False) (K:=fun _ _=>∀p,p<h.length→h'[p]?=some .hole→h[p]?=some .hole) (a:=⟨t,[]⟩) E D (by rw[G];exact u i o D) H J e
  (fun v μ' w' q1 q2 q3 p hp hh=>by
   cases A:h[p]? with
   |none=>rw[Sg]at A;omega
   |some k =>
    cases k with
    |hole=>rfl
    |cells cs=>obtain⟨⟨M,d⟩,_⟩:=q2.cells p cs A;rw[hh]at d;simp at d
    |rows z rs wr=>obtain⟨rs',O,d,_⟩:=q2.rows p z rs wr A;rw[hh]at d;simp at d
    |map es=>obtain⟨⟨S,d⟩,_⟩:=q2.maps p es A;rw[hh]at d;simp at d)
 unfold wpOp at this;simp only[D]at this;split at this
 ·rcases this with d|⟨_,_,_,d⟩
  ·exact Ziq d
  exact d.elim
 exact this
theorem Real.lt{h:Za}(r:Real Bs N g h)(d:l∈locs (g s)):l<h.length:=by obtain⟨μ,w,t,_,_,e⟩:=r;exact Rep.locs_lt _ _ (e s) l d
def Closed(B:List (List Nat))(L:Array Bool):Prop:=∀k,L.getD k false=true→∀i,bit B k i=true→L.getD i false=true
theorem Zpe(h:L.getD i true=false):L.getD i false=false:=by
 rcases Sc i L.size with h'|h'
 ·simp[h']at h ⊢;exact h
 simp[Uz h']at h
theorem Zd5(D:Ordered dy ops B)(E:Closed B L)(G:j∈Region.ready .any ops L)(H:bit B j i=true):L.getD i false=true:=by
 obtain⟨_,o,J,d⟩:=PB.1 G;obtain⟨e,M,u,h⟩:=D.cert j o J i H;have A:=d e M u;rcases h with h|h
 ·rw[←h];exact A
 exact E _ A i h
theorem Zqg(e:Ordered dy ops B)(u:Closed B L)(A:j∈Region.ready .any ops L)(hi:i∈Region.ready .any ops L):bit B j i=false:=by
 cases D:bit B j i with
 |false=>rfl
 |true =>
  have d:=Zd5 e u A D;rw[Zpe (PB.1 hi).1]at d;cases d
theorem Closed.step(D:Ordered dy ops B)(e:Closed B L)(E:j∈Region.ready .any ops L):Closed B (L.setIfInBounds j true):=by
 intro k u i A;by_cases d:j=k
 ·subst d;exact getD_set_true (Zd5 D e E A)
 rw[getD_set_ne false d]at u;exact getD_set_true (e k u i A)
theorem Zrr(A:Ordered dy ops B)(J:Closed B L)(hi:i∈Region.ready .any ops L)(M:j∈Region.ready .any ops L)(D:i≠j)(O:ops[i]?=some oi)(u:ops[j]?=some oj):
  (∀d,oi.dst=some d→d∉oj.looksAt ops)∧(∀d,oi.dst=some d→oj.dst≠some d)∧(∀d,oj.dst=some d→d∉oi.looksAt ops)∧(ZfX dy i j oi oj=true∨ZfX dy j i oj oi=true):=by
 rcases Sy D with h|h
 ·rcases A.pair i j oi oj h O u with e|⟨e,h2⟩
  ·rw[Zqg A J M hi]at e;cases e
  obtain⟨E,G,H⟩:=Oper.apart_spec e;exact⟨E,G,H,.inl h2⟩
 rcases A.pair j i oj oi h u O with e|⟨e,h2⟩
 ·rw[Zqg A J hi M]at e;cases e
 obtain⟨E,G,H⟩:=Oper.apart_spec e;exact⟨H,fun d Q S=>G d S Q,E,.inr h2⟩
inductive Mix(dy:List (Nat×Nat))(i j:Nat)(oi oj:Oper):Prop where
 |both (h1:isQ dy i oi.op=true) (h2:isQ dy j oj.op=true)
 |left (h1:isQ dy i oi.op=true) (h2:alo oj.op=true∨∀s,s∈XY oi.op→(j,s)∈dy)
 |right (h1:isQ dy j oj.op=true) (h2:alo oi.op=true∨∀s,s∈XY oj.op→(i,s)∈dy)
 |makes (h1:alo oi.op=true) (h2:alo oj.op=true)
 |memL (h1:ZrW oi.op=true) (h0:isQ dy i oi.op=false) (h2:alo oj.op=true)
 |memR (h1:alo oi.op=true) (h2:ZrW oj.op=true) (h0:isQ dy j oj.op=false)
 |ins (hp:ZeR oi oj=true) (h1:∀s,s∈XY oi.op→(j,s)∈dy) (h2:∀s,s∈XY oj.op→(i,s)∈dy)
 |sto (p q:Nat) (hp:ZiA oi oj=some (p,q)) (h1:(j,p)∈dy) (h2:(i,q)∈dy)
theorem ZgO(h:ZiA oi oj=some (p,q)):ZiA oj oi=some (q,p)∧p∈XY oi.op∧q∈XY oj.op:=by cases h
theorem ZlV(h:ZeR oi oj=true):ZeR oj oi=true:=by cases h
theorem Zw7(h:ZfX dy i j oi oj=true):Mix dy i j oi oj:=by
 unfold ZfX at h;split at h
 ·rename_i d;split at h
  ·rename_i h2;exact .both d h2
  simp only[U0,Um,UP]at h;exact .left d h
 split at h
 ·rename_i h2;simp only[U0,Um,UP]at h;exact .right h2 h
 rename_i e u;simp only[U0,VA,Um,UP]at h;rcases h with h|h|h|h|h
 ·exact .makes h.1 h.2
 ·exact .memL h.1 (by simpa using e) h.2
 ·exact .memR h.1 h.2 (by simpa using u)
 ·exact .ins h.1 h.2.1 h.2.2
 unfold ZCE at h;split at h
 ·rename_i p q A;simp only[VA,UP]at h;exact .sto p q A h.1 h.2
 simp at h
theorem Mix.swap(h:Mix dy i j oi oj):Mix dy j i oj oi:=by
 cases h with
 |both d h2=>exact .both h2 d
 |left d h2=>exact .right d h2
 |right d h2=>exact .left d h2
 |makes d h2=>exact .makes h2 d
 |memL d h0 h2=>exact .memR h2 d h0
 |memR d h2 h0=>exact .memL h2 h0 d
 |ins e d h2=>exact .ins (ZlV e) h2 d
 |sto p q e d h2=>exact .sto q p (ZgO e).1 h2 d
def Zrl(pl:Nat→Nat)(ops:Array Oper):Prop:=∀(i j:Nat) (oi oj:Oper),ops[i]?=some oi→ops[j]?=some oj→alo oi.op=true→alo oj.op=true→i≠j→pl i≠pl j
def Zyy(pl:Nat→Nat)(ops:Array Oper)(n:Nat):Prop:=∀(i:Nat) (oi:Oper),ops[i]?=some oi→alo oi.op=true→pl i<n∧pl 0≤pl i
theorem ZxU(hF:Ww Bs C.P F)(Y:OpsFit N ops)(a0:Zrl pl ops)(a2:i≠j){h h' h'':Za}{y:AV}{T T':List Nat}(E:ops[i]?=some oi)(u:ops[j]?=some oj)
  (a1:∀d,oi.dst=some d→d∉oj.looksAt ops) (a3:∀d,oj.dst=some d→d∉oi.looksAt ops) (Z:Mix dy i j oi oj) (M:Real Bs N g h) (G:Zyy pl ops h.length)
  (D:Yj C F dy pl ops i g h=some (x,h',T)) (h2:Yj C F dy pl ops j (Za3 g oi.dst x) h'=some (y,h'',T'))
  (ci:∀s,(i,s)∈dy→s∈XY oj.op→∀l,l∈locs (g s)→l∉T) (cj:∀s,(j,s)∈dy→s∈XY oi.op→∀l,l∈locs (g s)→l∉T') :
  ∃h2,Yj C F dy pl ops j g h=some (y,h2,T')∧Yj C F dy pl ops i (Za3 g oj.dst y) h2=some (x,h'',T):=by
 have fj:∀h,Yj C F dy pl ops j (Za3 g oi.dst x) h=Yj C F dy pl ops j g h:=fun h=>ZgL u fun t ht=>ZbI fun e=>a1 t e ht;have H:∀h,Yj C F dy pl ops i (Za3 g oj.dst y) h=Yj C F dy pl ops i g h:=fun h=>ZgL E fun t ht=>ZbI fun e=>a3 t e ht;rw[fj]at h2;have J:isQ dy i oi.op=true→(isQ dy j oj.op=true∨alo oj.op=true∨∀s,s∈XY oi.op→(j,s)∈dy)→∃h2,Yj C F dy pl ops j g h=some (y,h2,T')∧Yj C F dy pl ops i (Za3 g oj.dst y) h2=some (x,h'',T):=by
  intro q A;obtain⟨rfl,rfl⟩:=ZaZ E q D;refine⟨h'',h2,?_⟩;rw[H];rcases A with q'|A
  ·obtain⟨rfl,rfl⟩:=ZaZ u q' h2;exact D
  refine ZgE E q (fun s hs l O=>?_) D;refine((ZbP h2).2 l (M.lt O) ?_ (M.solid O)).symm;rcases A with A|A
  ·rw[ZjW u A h2];simp
  exact cj s (A s hs) hs l O
 cases Z with
 |both q q'=>exact J q (.inl q')
 |left q A=>exact J q (.inr A)
 |right q A =>
  obtain⟨rfl,rfl⟩:=ZaZ u q h2;have h3:Yj C F dy pl ops j g h=some (y,h,[]):=by
   refine ZgE u q (fun s hs l O=>?_) h2;refine(ZbP D).2 l (M.lt O) ?_ (M.solid O);rcases A with A|A
   ·rw[ZjW E A D];simp
   exact ci s (A s hs) hs l O
  exact⟨h,h3,by rw[H];exact D⟩
 |makes X Q =>
  obtain⟨rfl,c1⟩:=Q7 E X D;obtain⟨rfl,c2⟩:=Q7 u Q h2;have S:=a0 i j oi oj E u X Q a2;rcases c1 with⟨rfl,U⟩|⟨b1,p1,rfl,U⟩
  ·exact⟨h'',h2,by rw[H];exact U _⟩
  rcases c2 with⟨rfl,W⟩|⟨b2,p2,rfl,W⟩
  ·exact⟨h,W h,by rw[H];exact D⟩
  rw[Vc S]at p2;refine⟨h.set (pl j) b2,W h p2,?_⟩;rw[H,U _ (by rw[Vc (fun e=>S e.symm)];exact p1),Pr _ _ (fun e=>S e.symm)]
 |memL Z hq Q =>
  obtain⟨rfl,c2⟩:=Q7 u Q h2;rcases c2 with⟨rfl,W⟩|⟨b2,p2,rfl,W⟩
  ·exact⟨h,W h,by rw[H];exact D⟩
  have hh:=M.hole hF E Y D _ (G j oj u Q).1 p2;refine⟨h.set (pl j) b2,W h hh,?_⟩;rw[H,(Zio E Z hq (G j oj u Q).2 (G j oj u Q).1 (M.blocks hh) (fun s hs=>M.solid hs hh)).1,D]
 |memR X Z hq =>
  obtain⟨rfl,c1⟩:=Q7 E X D;rcases c1 with⟨rfl,U⟩|⟨b1,p1,rfl,U⟩
  ·exact⟨h'',h2,by rw[H];exact U _⟩
  obtain⟨q1,q2⟩:=Zio (C:=C) (F:=F) (dy:=dy) (pl:=pl) (g:=g) (b:=b1) u Z hq (G i oi E X).2 (G i oi E X).1 (M.blocks p1) (fun s hs=>M.solid hs p1);rw[q1]at h2;cases hs:Yj C F dy pl ops j g h with
  |none=>rw[hs]at h2;simp at h2
  |some r =>
   obtain⟨y',h3,T3⟩:=r;rw[hs]at h2;simp only[Va,Vp]at h2;obtain⟨rfl,rfl,rfl⟩:=h2;exact⟨h3,rfl,by rw[H];exact U h3 (by rw[q2 _ _ _ hs];exact p1)⟩
 |ins hp e1 e2 =>
  obtain⟨h3,q1,q2⟩:=ZmF E u hp D h2 (fun s hs=>ci s (e2 s hs) hs) (fun s hs=>cj s (e1 s hs) hs);exact⟨h3,q1,by rw[H];exact q2⟩
 |sto p q hp e1 e2 =>
  obtain⟨_,r1,r2⟩:=ZgO hp;obtain⟨h3,q1,q2⟩:=Zm5 E u hp D h2 (ci q e2 r2) (cj p e1 r1);exact⟨h3,q1,by rw[H];exact q2⟩
def ZlZ(dy:List (Nat×Nat))(i:Nat)(G:Nat→AV)(T:List Nat):Prop:=∀s,(i,s)∈dy→∀l,l∈locs (G s)→l∉T
def Zlq(C:Cfg)(F:Tk→Res)(dy:List (Nat×Nat))(pl:Nat→Nat)(ops:Array Oper)(G:Nat→AV)(H:Za):Nat→Array Bool→(Nat→AV)→Za→Prop
 |0,L,g,h=>Region.ready .any ops L=[]∧g=G∧h=H
 |n+1,L,g,h=>(Region.ready .any ops L=[]→g=G∧h=H)∧∀i,i∈Region.ready .any ops L→∀o,ops[i]?=some o →
   ∃x h' T,Yj C F dy pl ops i g h=some (x,h',T)∧ZlZ dy i G T∧Zlq C F dy pl ops G H n (L.setIfInBounds i true) (Za3 g o.dst x) h'
theorem ZkI{G:Nat→AV}{H:Za}{s:Nat}:∀(n:Nat) (L:Array Bool) (g:Nat→AV) (h:Za),Zlq C F dy pl ops G H n L g h→(∀(k:Nat) (o:Oper),ops[k]?=some o→o.dst=some s→L.getD k true=true)→G s=g s
 |0,L,g,h,u,_=>by rw[u.2.1]
 |n+1,L,g,h,u,hs=>by
  by_cases A:Region.ready .any ops L=[]
  ·rw[(u.1 A).1]
  obtain⟨i,hi⟩:∃i,i∈Region.ready .any ops L:=by
   cases E:Region.ready .any ops L with
   |nil=>exact absurd E A
   |cons i r=>exact⟨i,by simp⟩
  obtain⟨h0,o,D,_⟩:=PB.1 hi;obtain⟨x,h',T,_,_,h3⟩:=u.2 i hi o D;have:=ZkI n _ _ _ h3 fun k ok J M=>by
   by_cases d:i=k
   ·subst d;rcases Sc i L.size with h'|h'
    ·simp[h']
    simp
   rw[getD_set_ne true d];exact hs k ok J M
  rw[this];refine ZbI fun e=>?_;have:=hs i o D e;rw[h0]at this;cases this
theorem ZpR(e:Ordered dy ops B)(u:Closed B L)(A:j∈Region.ready .any ops L)(D:ops[j]?=some oj)(hs:s∈XY oj.op):
  ∀(k:Nat) (o:Oper),ops[k]?=some o→o.dst=some s→L.getD k true=true:=fun k o E G=>by
 have d:=Zd5 e u A (e.reads j oj D s hs k o E G);rcases Sc k L.size with h'|h'
 ·simp[h']at d ⊢;exact d
 simp[Uz h']at d
theorem Zp3(hF:Ww Bs C.P F)(a0:Zrl pl ops)(hO:Ordered dy ops B)(O:OpsFit N ops){G:Nat→AV}{H:Za}(Q:ops[i]?=some oi):
  ∀(n:Nat) (L:Array Bool) (g:Nat→AV) (h h':Za) (x:AV) (T:List Nat),i∈Region.ready .any ops L→Closed B L→Real Bs N g h→Zyy pl ops h.length→Yj C F dy pl ops i g h=some (x,h',T)→ZlZ dy i G T →
   Zlq C F dy pl ops G H n (L.setIfInBounds i true) (Za3 g oi.dst x) h'→Zlq C F dy pl ops G H (n+1) L g h:=by
 intro n
 induction n with
 |zero =>
  intro L g h h' x T hi Z hr M hs D S;refine⟨fun e=>by rw[e]at hi;simp at hi,fun j U oj u=>?_⟩;by_cases A:j=i
  ·subst A;rw[Q]at u;simp only[Va]at u;subst u;exact⟨x,h',T,hs,D,S⟩
  have:=ready_mono U A;rw[S.1]at this;simp at this
 |succ n ih =>
  intro L g h h' x T hi Z hr M hs D S;refine⟨fun e=>by rw[e]at hi;simp at hi,fun j U oj u=>?_⟩;by_cases A:j=i
  ·subst A;rw[Q]at u;simp only[Va]at u;subst u;exact⟨x,h',T,hs,D,S⟩
  obtain⟨y,h'',T',h1,h2,h3⟩:=S.2 j (ready_mono U A) oj u;obtain⟨a1,a2,a3,hm⟩:=Zrr hO Z hi U (fun e=>A e.symm) Q u;have W:Mix dy i j oi oj:=hm.elim Zw7 fun hm=>(Zw7 hm).swap;have keep:∀{k:Nat} {ok:Oper},k∈Region.ready .any ops L→ops[k]?=some ok→∀s,s∈XY ok.op→G s=g s:=fun{k ok} hk hok s E=>by
   have hd:=ZpR hO Z hk hok E;have h4:=ZkI (n+1) _ _ _ S (s:=s) fun q o hq a4=>by
    by_cases X:i=q
    ·subst X;rcases Sc i L.size with h'|h'
     ·simp[h']
     simp
    rw[getD_set_ne true X];exact hd q o hq a4
   rw[h4];refine ZbI fun e=>?_;have:=hd i oi Q e;rw[(PB.1 hi).1]at this;cases this
  obtain⟨h4,h5,h6⟩:=ZxU hF O a0 (fun e=>A e.symm) Q u a1 a3 W hr M hs h1
   (fun s J E l hl=>D s J l (by rw[keep U u s E];exact hl)) (fun s J E l hl=>h2 s J l (by rw[keep hi Q s E];exact hl))
  refine⟨y,h4,T',h5,h2,ih (L.setIfInBounds j true) _ h4 h'' x T (ready_mono hi (fun e=>A e.symm)) (Z.step hO U) (hr.step hF u O h5) (fun q oq hq Y=>⟨Ur (M q oq hq Y).1 (ZbP h5).1,(M q oq hq Y).2⟩) h6 D ?_⟩;rw[Array.setIfInBounds_comm _ _ A,Zr6 (g:=g) (d:=oj.dst) (e:=oi.dst) fun s J he=>a2 s he J];exact h3
theorem Zwm(O:Ww Bs C.P F){G:Nat→AV}{H:Za}{Q:Exit→Act→World→Prop}:∀(n:Nat) (L:Array Bool) (g:Nat→AV) (h:Za) (a:Act) (μ:Mp Bs) (w:World),
  Zlq C F dy pl ops G H n L g h→OpsFit a.tmps.size ops→Rel μ h w→FrG μ h w g a.tmps →
  (∀a' μ' w',Rel μ' H w'→Ext μ h w μ' H w'→FrG μ' H w' G a'.tmps→a'.tmps.size=a.tmps.size→a'.defers=a.defers→Q .normal a' w')→wpAny C.P .any ops Q n L a w
 |0,L,g,h,a,μ,w,u,_,A,D,E=>by obtain⟨J,rfl,rfl⟩:=u;exact⟨J,E a μ w A (Ext.refl _ _ _) D rfl rfl⟩
 |n+1,L,g,h,a,μ,w,u,d,A,D,E=>by
  refine⟨fun e=>?_,fun i hi=>?_⟩
  ·obtain⟨rfl,rfl⟩:=u.1 e;exact E a μ w A (Ext.refl _ _ _) D rfl rfl
  obtain⟨_,o,M,_⟩:=PB.1 hi;obtain⟨x,h',T,J,_,h3⟩:=u.2 i hi o M;refine Zjp O M (d i o M) A D J ?_;intro v μ' w' q1 q2 q3;refine Zwm O n _ _ h' (a.put o.dst v) μ' w' h3 (by rw[We];exact d) q1 q3 ?_;intro a' μ2 w2 p1 p2 p3 p4 p5;exact E a' μ2 w2 p1 (q2.trans p2) p3 (by rw[p4,We]) (by rw[p5,ZaS])
def Zbe(N:Nat)(k:Nat):Array Bool:=((List.range N).map fun i=>decide (i<k)).toArray
theorem Zfl{M:Nat}(d:Bool)(h:i<M):(Zbe M k).getD i d=decide (i<k):=by simp[Zbe,h]
theorem ZrR(M:Nat):Zbe M 0=Array.replicate M false:=by
 apply Array.ext
 ·simp[Zbe]
 intro i d h2;simp[Zbe]
theorem Zj5{M:Nat}:(Zbe M k).setIfInBounds k true=Zbe M (k+1):=by
 apply Array.ext
 ·simp[Zbe]
 intro i e h2;have hi:i<M:=by simpa[Zbe]using h2
 by_cases d:k=i
 ·subst d;simp[Zbe]
 rw[Array.getElem_setIfInBounds_ne (by simpa[Zbe]using hi) d];simp[Zbe];omega
theorem ZjQ(u:Ordered dy ops B)(d:ops[k]?=some o):k∈Region.ready .any ops (Zbe ops.size k):=by have A:k<ops.size:=(Uv.1 d).1;refine PB.2 ⟨by rw[Zfl _ A];simp,o,d,fun e D E=>?_⟩;have:=u.lex k o d e D E;rw[Zfl _ (by omega)];simpa using this
theorem Zst(A:ops.size≤k):Region.ready .any ops (Zbe ops.size k)=[]:=by apply List.eq_nil_iff_forall_not_mem.2;intro i hi;obtain⟨e,o,u,_⟩:=PB.1 hi;have d:i<ops.size:=(Uv.1 u).1;rw[Zfl _ d]at e;simp at e;omega
theorem ZiR(d:Ordered dy ops B):∀k,k≤ops.size→Closed B (Zbe ops.size k)
 |0,_=>fun i hi=>by
  exfalso;rcases Sc i ops.size with h'|h'
  ·rw[Zfl _ h']at hi;simp at hi
  have:(Zbe ops.size 0).size≤i:=by simpa[Zbe]using h'
  simp[Uz this]at hi
 |k+1,e=>by rw[←Zj5];exact(ZiR d k (by omega)).step d (ZjQ d (Array.getElem?_eq_getElem (by omega)))
theorem ZgD{fr:Fr}{T:List Nat}{i:Nat}:∀{d:List (Nat×Nat)},QC d i fr T=true→ZlZ d i (get fr) T
 |[],_,s,hs,_,_=>by simp at hs
 |(j,D)::r,e,s,hs,l,u=>by
  simp only[QC,VA]at e;rcases Vn.1 hs with h|h
  ·simp only[Vp]at h;obtain⟨rfl,rfl⟩:=h;have A:=e.1;simp only[V7,Sq,List.any_eq_false,UP]at A;exact A l u
  exact ZgD e.2 s h l u
theorem ZqM(Z:Ww Bs C.P F)(M:Zrl pl ops)(Y:Ordered dy ops B)(u:OpsFit N ops){G:Fr}{H:Za}:∀(rest:List Oper) (k:Nat) (fr:Fr) (h:Za) (l:List (Nat×List Nat)),
  ops.toList.drop k=rest→k≤ops.size→Real Bs N (get fr) h→Zyy pl ops h.length→X0 C F dy pl ops.toList k rest fr h=some (G,H,l)→YN dy G l=true→Zlq C F dy pl ops (get G) H (ops.size-k) (Zbe ops.size k) (get fr) h
 |[],k,fr,h,l,O,hk,hr,d,e,A=>by
  have Q:ops.size≤k:=by have:=congrArg List.length O;simp at this;omega
  have:ops.size-k=0:=by omega
  rw[this];simp only[X0,Va,Vp]at e;obtain⟨rfl,rfl,_⟩:=e;exact⟨Zst Q,rfl,rfl⟩
 |o::rest,k,fr,h,l,O,hk,hr,d,e,A=>by
  have a0:k<ops.size:=by have:=congrArg List.length O;simp at this;omega
  have S:ops[k]?=some o:=by have:=congrArg (fun l=>l[0]?) O;simp only[Uc,Ug,Vt,U4]at this;exact this
  have a1:ops.toList.drop (k+1)=rest:=by have:=congrArg List.tail O;simpa[UY]using this
  have a2:ops.size-k=(ops.size-(k+1))+1:=by omega
  rw[a2];have step:∀{x:AV} {h':Za} {T:List Nat} {l':List (Nat×List Nat)},Yj C F dy pl ops k (get fr) h=some (x,h',T)→X0 C F dy pl ops.toList (k+1) rest (put fr o.dst x) h'=some (G,H,l')→YN dy G l'=true→ZlZ dy k (get G) T →
    Zlq C F dy pl ops (get G) H (ops.size-(k+1)+1) (Zbe ops.size k) (get fr) h:=by
   intro x h' T l' hs Q U hc;refine Zp3 Z M Y u S _ _ _ _ h' x T (ZjQ Y S) (ZiR Y k hk) hr d hs hc ?_;rw[Zj5,←Zqp];refine ZqM Z M Y u rest (k+1) _ h' l' a1 a0 ?_ (fun q oq hq W=>⟨Ur (d q oq hq W).1 (ZbP hs).1,(d q oq hq W).2⟩) Q U;rw[Zqp];exact hr.step Z S u hs
  have go:∀(D:WJ ops (get fr) o=some true),(match XP C F dy pl k (ev fr) h o.op with
    |some (v,h')=>match X0 C F dy pl ops.toList (k+1) rest (put fr o.dst v) h' with
     |some (X,h'',l)=>some (X,h'',(k,chg h h' (Ys (pl 0) dy k (ev fr) h o.op))::l)
     |none=>none
    |none=>none)=some (G,H,l)→Zlq C F dy pl ops (get G) H (ops.size-(k+1)+1) (Zbe ops.size k) (get fr) h:=by
   intro D e;split at e
   ·rename_i v h' hs;split at e
    ·rename_i X h'' l' Q;simp only[Va,Vp]at e;obtain⟨rfl,rfl,rfl⟩:=e;simp only[YN,VA]at A;refine step (T:=chg h h' (Ys (pl 0) dy k (ev fr) h o.op)) ?_ Q A.2 (ZgD A.1);rw[ZBb]at hs ⊢;unfold Yj;simp only[S,D,hs]
    simp at e
   simp at e
  have skip:∀(D:WJ ops (get fr) o=some false),X0 C F dy pl ops.toList (k+1) rest (put fr o.dst (.tup [])) h=some (G,H,l)→Zlq C F dy pl ops (get G) H (ops.size-(k+1)+1) (Zbe ops.size k) (get fr) h:=by intro D e;refine step (x:=.tup []) (h':=h) (T:=[]) ?_ e A (fun _ _ _ _=>by simp);unfold Yj;simp only[S,D]
  simp only[X0]at e;split at e
  ·rename_i D;exact go (by unfold WJ;simp only[D]) e
  rename_i j a3 D;split at e
  ·rename_i b J;rw[ZqU]at J;split at e
   ·rename_i E;exact go (by unfold WJ;simp only[D,J,E,decide_true]) e
   rename_i E;exact skip (by unfold WJ;simp only[D,J,E,decide_false]) e
  ·rename_i J;rw[ZqU]at J;exact skip (by unfold WJ;simp only[D,J]) e
  simp at e
theorem J1:∀(l:List Oper) (i j:Nat) (o:Oper),l[i]?=some o→alo o.op=true→i<j→J3 (l.take i)<J3 (l.take j)
 |[],i,j,o,e,_,_=>by simp at e
 |a::l,0,j,o,e,d,u=>by simp only[Vt,Va]at e;subst e;obtain⟨j,rfl⟩:∃k,j=k+1:=⟨j-1,by omega⟩;simp only[Sp,UH,J3,d,V7];omega
 |a::l,i+1,j,o,e,d,u=>by obtain⟨j,rfl⟩:∃k,j=k+1:=⟨j-1,by omega⟩;simp only[UH,J3];have:=J1 l i j o (by simpa using e) d (by omega);omega
theorem Zxe(n:Nat):Zrl (Zle n ops.toList) ops:=fun i j oi oj hi A D E d=>by
 have e:ops.toList[i]?=some oi:=by simpa using hi
 have u:ops.toList[j]?=some oj:=by simpa using A
 unfold Zle;rcases Sy d with h|h
 ·have:=J1 ops.toList i j oi e D h;omega
 have:=J1 ops.toList j i oj u E h;omega
theorem Zqz:∀(l:List Oper) (i:Nat),J3 (l.take i)≤J3 l
 |[],_=>by simp
 |a::l,0=>by simp[J3]
 |a::l,i+1=>by simp only[UH,J3];have:=Zqz l i;omega
theorem ZxJ{l:List Oper}(e:l[i]?=some o)(d:alo o.op=true):J3 (l.take i)<J3 l:=by have u:=J1 l i (i+1) o e d (by omega);have h2:=Zqz l (i+1);omega
theorem Zyo(n:Nat)(h:Za):Zyy (Zle h.length ops.toList) ops (h++List.replicate (J3 ops.toList) Blk.hole).length:=fun i oi hi d=>by have:=ZxJ (l:=ops.toList) (by simpa using hi) d;simp only[Zle,Vu,Uh,Sp,J3];omega
theorem ZkB{μ:Mp Bs}{w:World}:∀(n:Nat) (h:Za),Rel μ h w→∃μ',Rel μ' (h++List.replicate n .hole) w∧Ext μ h w μ' (h++List.replicate n .hole) w
 |0,h,d=>⟨μ,by simpa using d,by simpa using Ext.refl μ h w⟩
 |n+1,h,d=>by
  have D:=Ext.push d .hole none;have u:Rel (μ.set h.length none) (h++[.hole]) w:=Rel.push d .hole none (set_same _ _);obtain⟨μ',A,h2⟩:=ZkB n (h++[.hole]) u;have e:h++[.hole]++List.replicate n Blk.hole=h++List.replicate (n+1) .hole:=by simp[Pb]
  rw[e]at A h2;exact⟨μ',A,D.trans h2⟩
theorem Zpb(O:Ww Bs C.P F)(U:Ordered dy ops B){Q:Exit→Act→World→Prop}{id:Nat}{fr A:Fr}{h:Za}{μ:Mp Bs}(W:C.P.follows .mixedOrders=true)(d:OpsFit a.tmps.size ops)(X:Rel μ h w)(Y:FrRel μ h w fr a.tmps)
  (e:ZgP dy (X0 C F dy (Zle h.length ops.toList) ops.toList 0 ops.toList fr (h++List.replicate (J3 ops.toList) .hole))=some (A,h')) (Z:ZAV μ h w a A h' Q):(Code.region id ops true).wp C.P Q a w:=by
 unfold ZgP at e;split at e
 ·rename_i a0 h1 l hl;split at e
  ·rename_i H;simp only[Va,Vp]at e;obtain⟨rfl,rfl⟩:=e;refine wp_region_any W ?_;obtain⟨μ1,D,E⟩:=ZkB (J3 ops.toList) h X;have G:FrRel μ1 (h++List.replicate (J3 ops.toList) .hole) w fr a.tmps:=FrRel.ext E Y;have J:=Zbv D;have S:=drew_ext (μ:=μ1) (h:=h++List.replicate (J3 ops.toList) .hole) (w:=w);have M:FrG μ1 (h++List.replicate (J3 ops.toList) .hole) (Xo w) (get fr) a.tmps:=FrRel.ext S G;have u:Real Bs a.tmps.size (get fr) (h++List.replicate (J3 ops.toList) .hole):=⟨μ1,w,a.tmps,rfl,D,G⟩;have:=ZqM O (Zxe h.length) U d ops.toList 0 fr _ l (by simp) (by omega) u (Zyo 0 h) hl H;rw[ZrR,V4]at this;refine Zwm O ops.size _ _ _ a μ1 (Xo w) this d J M ?_;intro a' μ' w' q1 q2 q3 q4 q5;exact Z a' μ' w' q1 (E.trans (S.trans q2)) q3 q4 q5
  simp at e
 simp at e
end
section
variable{Bs:World→Prop}
def Zba(μ:Mp Bs)(ls:List Nat):Mp Bs :=
 ⟨fun i=>match ls[i]? with
  |some l=>μ l
  |none=>none,μ.out,μ.still⟩
end
section
variable{Bs:World→Prop}
variable{P:Program}{μ μ0:Mp Bs}{h hs h0:Za}{w w0:World}{ls:List Nat}
theorem Wj(e:ls[i]?=some l):(Zba μ ls) i=μ l:=by simp only[Zba,e]
theorem IsPart.pmut(u:IsPart h ls hs){o:Nat}(D:Mut (Zba μ ls) hs b o):Mut μ h b o:=by
 rcases D with d|⟨i,k,hi,A,d⟩
 ·exact .inl d
 obtain⟨l,e,_⟩:=u.nth (Vb.1 hi).1;obtain⟨b',E,h2⟩:=u.there i l e;rw[hi]at h2;simp only[Va]at h2;subst h2;rw[Wj e]at A;exact .inr ⟨l,b',E,A,(ZcB _ _ _).1 d⟩
theorem IsPart.pkeeps(u:IsPart h ls hs)(A:l∈ls):Wk μ h (Zba μ ls) hs (YQ ls) l:=fun k D=>by have d:=QM ls l A;obtain⟨b,e,h2⟩:=u.there _ l d;rw[D]at e;simp only[Va]at e;subst e;exact⟨h2,Wj d⟩
theorem IsPart.prep(d:IsPart h ls hs){a:AV}(e:∀i,i∈locs a→i∈ls)(r:Rep μ h w a v):Rep (Zba μ ls) hs w (ren (YQ ls) a) v :=
 Rep.ren (fun _ _ u=>d.pmut u) a v (fun i hi=>d.pkeeps (e i hi)) r
theorem IsPart.prel(d:IsPart h ls hs)(A:Rel μ h w):Rel (Zba μ ls) hs w where
 inj:=fun i j b hi H D J=>by obtain⟨l,e,G⟩:=d.nth hi;obtain⟨l',e',O⟩:=d.nth H;rw[Wj e]at D;rw[Wj e']at J;have:l=l':=A.inj l l' b (d.lt G) (d.lt O) D J;subst this;rw[←Zaf ls i l d.nodup e,←Zaf ls j l d.nodup e']
 blk:=fun i k hi=>by
  obtain⟨l,e,G⟩:=d.nth (Vb.1 hi).1;obtain⟨b',W,h2⟩:=d.there i l e;rw[hi]at h2;simp only[Va]at h2;subst h2;have Q:=hi;have:=A.blk l b' W;cases b' with
  |cells cs =>
   obtain⟨b,vs,T,h3,E,M,S⟩:=this;refine⟨b,vs,T,by rw[Wj e];exact h3,E,by rw[Js];exact M,RepL.ren (fun _ _ u=>d.pmut u) cs vs (fun j H=>d.pkeeps ?_) S⟩;refine(Wq ls j).1 (d.closed _ (Wo hi _ ?_));show _∈Zg (Xl _ cs);rw[Qo];exact UQ H
  |rows z rs wr =>
   rcases this with⟨h3,E⟩|⟨b,vs,T,h3,E,M,S⟩
   ·exact .inl ⟨h3.ren _,by rw[Wj e];exact E⟩
   refine .inr ⟨b,vs,T,by rw[Wj e];exact h3,by rw[YC];exact E,by rw[YC];exact M,S.ren fun a v hi r=>Rep.ren (fun _ _ u=>d.pmut u) a v (fun j H=>d.pkeeps ((Wq ls j).1 (d.closed _ (Wo Q _ ?_)))) r⟩;show _∈Zz (XN _ rs);rw[Zgk];exact UQ (hi j H)
  |hole =>
   show(Zba μ ls) i=none;rw[Wj e];exact this
  |map es =>
   obtain⟨b,ms,c,h3,E,M⟩:=this;exact⟨b,ms,c,by rw[Wj e];exact h3,E,M.keep fun b o v X D=>⟨X,fun u=>D (d.pmut u)⟩⟩
 apart:=fun i b o hi D Y=>by obtain⟨l,e,G⟩:=d.nth hi;rw[Wj e]at D;exact A.apart l b o (d.lt G) D Y
 still:=fun b U=>⟨(A.still b U).1,fun i hi u=>by obtain⟨l,e,G⟩:=d.nth hi;rw[Wj e]at u;exact(A.still b U).2 l (d.lt G) u⟩
 base:=A.base
 old:=A.old
theorem IsPart.pext(D:IsPart h ls hs)(H:∀i,i<h0.length→ls[i]?=some i)(J:h0.length≤ls.length)(e:Ext μ0 h0 w0 μ h w):Ext μ0 h0 w0 (Zba μ ls) hs w where
 out:=e.out
 still:=e.still
 os:=e.os
 tape:=e.tape
 output:=e.output
 size:=e.size
 len:=by rw[D.len];exact J
 keep:=fun b o v Q S=>by obtain⟨A,h2⟩:=e.keep b o v Q S;exact⟨A,fun G=>h2 (D.pmut G)⟩
 outside:=fun b U W=>by obtain⟨A,h2⟩:=e.outside b U W;refine⟨A,fun i hi G=>?_⟩;obtain⟨l,e',u⟩:=D.nth hi;rw[Wj e']at G;exact h2 l (D.lt u) G
 cells:=fun l cs u=>by obtain⟨⟨X,A⟩,h2⟩:=e.cells l cs u;have d:=H l (Vb.1 u).1;obtain⟨b',h3,E⟩:=D.there l l d;rw[A]at h3;simp only[Va]at h3;subst h3;exact⟨⟨_,E⟩,by rw[Wj d];exact h2⟩
 rows:=fun l z rs wr u=>by obtain⟨rs',M,A,h2,O⟩:=e.rows l z rs wr u;have d:=H l (Vb.1 u).1;obtain⟨b',h3,E⟩:=D.there l l d;rw[A]at h3;simp only[Va]at h3;subst h3;exact⟨_,M,E,by rw[YC];exact h2,fun q=>by rw[Wj d];exact O (by rw[YC]at q;exact q)⟩
 maps:=fun l es u=>by obtain⟨⟨Y,A⟩,h2⟩:=e.maps l es u;have d:=H l (Vb.1 u).1;obtain⟨b',h3,E⟩:=D.there l l d;rw[A]at h3;simp only[Va]at h3;subst h3;exact⟨⟨_,E⟩,by rw[Wj d];exact h2⟩
 sizes:=e.sizes
theorem ZaA(h:Za):∀(n:Nat) (l s:List Nat),∃t,Y7 h n l s=s++t
 |0,l,s| n+1,[],s=>⟨[],by simp[Y7]⟩
 |n+1,x::l,s=>by
  simp only[Y7];split
  ·exact ZaA h n l s
  split
  ·obtain⟨t,d⟩:=ZaA h n (l++ZA _) (s++[x]);exact⟨x::t,by rw[d];simp⟩
  obtain⟨t,d⟩:=ZaA h n l (s++[x]);exact⟨x::t,by rw[d];simp⟩
theorem ZeL{d r:AV}(H:h0.length=k)(J:Rel μ h w)(M:Ext μ0 h0 w0 μ h w)(O:Rep μ h w d v)(e:Zme k h d=some (r,h')):∃μ':Mp Bs,Rel μ' h' w∧Ext μ0 h0 w0 μ' h' w∧Rep μ' h' w r v:=by
 subst H;unfold Zme ZoM at e;obtain⟨t,D⟩:=ZaA h 1000 (Zk (h.take h0.length)++locs d) (List.range h0.length);have u:=Wc h 1000 (Zk (h.take h0.length)++locs d) (List.range h0.length) PO;generalize Y7 h 1000 (Zk (h.take h0.length)++locs d) (List.range h0.length)=ls at e D u;split at e
 ·rename_i hs A;split at e
  ·rename_i G;simp only[Va,Vp]at e;obtain⟨rfl,rfl⟩:=e;obtain⟨Q,S⟩:=Zeb h _ _ _ A;have E:IsPart h ls hs:=⟨u,Q,S,YI G.1⟩;refine⟨Zba μ ls,E.prel J,E.pext (fun i hi=>?_) ?_ M,E.prep (fun i hi=>(Wq _ _).1 (YI G.2 _ (UQ hi))) O⟩
   ·rw[D,Vh (by simpa using hi)];simp[hi]
   rw[D];simp
  simp at e
 simp at e
def Zck(h:Za)(l z n:Nat)(rs2:List (List AV)):Za:=h.set l (.rows z (List.replicate (n+1) []) true)++[.rows z rs2 true]
theorem Zae:(Zck h l z n rs2).length=h.length+1:=by simp[Zck]
theorem ZjT:(Zck h l z n rs2)[h.length]?=some (.rows z rs2 true):=by unfold Zck;rw[Vy (by simp)];simp
theorem ZiB(d:l<h.length):(Zck h l z n rs2)[l]?=some (.rows z (List.replicate (n+1) []) true):=by unfold Zck;rw[Vh (by simpa using d),Vf d]
theorem Zbj(hi:i<h.length)(d:i≠l):(Zck h l z n rs2)[i]?=h[i]?:=by unfold Zck;rw[Vh (by simpa using hi),Vc (fun e=>d e.symm)]
theorem Ext.kill{rs:List (List AV)}(H:h[l]?=some (.rows z rs true))(S:μ l=some b):
  Ext μ h w ((μ.set l none).set h.length (some b)) (Zck h l z rs.length rs2) w:=by
 have J:l<h.length:=(Vb.1 H).1;have old:∀i,i<h.length→i≠l→((μ.set l none).set h.length (some b)) i=μ i:=fun i hi O=>by rw[Zm _ (by omega),Zm _ O]
 exact{
  out:=rfl
  still:=rfl
  os:=rfl
  tape:=rfl
  output:=rfl
  size:=Vw _
  len:=by rw[Zae];omega
  keep:=fun b' o v U E=>⟨U,by
   rintro(G|⟨l',k',d,u,G⟩)
   ·exact E (.inl G)
   have A:l'<h.length+1:=by have:=(Vb.1 d).1;rw[Zae]at this;exact this
   by_cases M:l'=h.length
   ·subst M;rw[set_same]at u;simp only[Va]at u;subst u;exact E (.inr ⟨l,_,H,S,.inl rfl⟩)
   by_cases h2:l'=l
   ·subst h2;rw[Zm _ M,set_same]at u;simp at u
   rw[old l' (by omega) h2]at u;rw[Zbj (by omega) h2]at d;exact E (.inr ⟨l',k',d,u,G⟩)⟩
  outside:=fun b' _ G=>⟨rfl,fun l' d u=>by
   rw[Zae]at d;by_cases M:l'=h.length
   ·subst M;rw[set_same]at u;simp only[Va]at u;subst u;exact G l J S
   by_cases h2:l'=l
   ·subst h2;rw[Zm _ M,set_same]at u;simp at u
   rw[old l' (by omega) h2]at u;exact G l' (by omega) u⟩
  cells:=fun l' cs d=>by
   have A:=(Vb.1 d).1;have D:l'≠l:=fun e=>by subst e;rw[H]at d;simp at d
   exact⟨⟨cs,by rw[Zbj A D];exact d⟩,old l' A D⟩
  maps:=fun l' es d=>by
   have A:=(Vb.1 d).1;have D:l'≠l:=fun e=>by subst e;rw[H]at d;simp at d
   exact⟨⟨es,by rw[Zbj A D];exact d⟩,old l' A D⟩
  rows:=fun l' z' rs' Q d=>by
   have A:=(Vb.1 d).1;by_cases D:l'=l
   ·subst D;rw[H]at d;simp only[Va,Blk.rows.injEq]at d;obtain⟨rfl,rfl,rfl⟩:=d;exact⟨_,true,ZiB J,by simp,fun e=>by simp at e⟩
   exact⟨rs',Q,by rw[Zbj A D];exact d,Vw _,fun _=>old l' A D⟩
  sizes:=fun b' vs T W=>⟨vs,W,rfl⟩}
theorem Rel.kill{l z b:Nat}{rs rs2:List (List AV)}{vs:Array Value}{T:TypeId}(u:Rel μ h w)(Z:h[l]?=some (.rows z rs true))(U:μ l=some b)(hw:w.heap[b]?=some (.cells vs T (0,0)))(W:rs2.length*z≤vs.size)(X:RowsN μ h w z rs2 vs):
  Rel ((μ.set l none).set h.length (some b)) (Zck h l z rs.length rs2) w:=by
 have A:l<h.length:=(Vb.1 Z).1;have J:Ext μ h w ((μ.set l none).set h.length (some b)) (Zck h l z rs.length rs2) w:=Ext.kill Z U;have old:∀i,i<h.length→i≠l→((μ.set l none).set h.length (some b)) i=μ i:=fun i hi O=>by rw[Zm _ (by omega),Zm _ O]
 have val:∀i b',i<h.length+1→((μ.set l none).set h.length (some b)) i=some b'→(i=h.length∧b'=b)∨(i<h.length∧i≠l∧μ i=some b'):=fun i b' hi G=>by
  by_cases d:i=h.length
  ·subst d;rw[set_same]at G;simp only[Va]at G;exact .inl ⟨rfl,G.symm⟩
  by_cases h2:i=l
  ·subst h2;rw[Zm _ d,set_same]at G;simp at G
  rw[old i (by omega) h2]at G;exact .inr ⟨by omega,h2,G⟩
 exact{
  inj:=fun i j b' hi hj H Y=>by
   rw[Zae]at hi hj;rcases val i b' hi H with⟨d,h2⟩|⟨d,h2,h3⟩<;>rcases val j b' hj Y with⟨e,D⟩|⟨e,D,M⟩
   ·omega
   ·subst h2;exact absurd (u.inj j l b' e A M U) D
   ·subst D;exact absurd (u.inj i l b' d A h3 U) h2
   exact u.inj i j b' d e h3 M
  blk:=fun i k hi=>by
   have O:i<h.length+1:=by have:=(Vb.1 hi).1;rw[Zae]at this;exact this
   by_cases d:i=h.length
   ·subst d;rw[ZjT]at hi;simp only[Va]at hi;subst hi;exact .inr ⟨b,vs,T,set_same _ _,.free hw,W,X.ext J⟩
   by_cases h2:i=l
   ·subst h2;rw[ZiB A]at hi;simp only[Va]at hi;subst hi;exact .inl ⟨fun row Q=>SK Q,by rw[Zm _ d,set_same]⟩
   rw[Zbj (by omega) h2]at hi;have:=u.blk i k hi;have S:=old i (by omega) h2;cases k with
   |cells cs =>
    obtain⟨b',E,T',h3,e,D,M⟩:=this;exact⟨b',E,T',S.trans h3,e,D,RepL.ext J cs E M⟩
   |rows z' rs' a0 =>
    rcases this with⟨h3,e⟩|⟨b',E,T',h3,e,D,M⟩
    ·exact .inl ⟨h3,S.trans e⟩
    exact .inr ⟨b',E,T',S.trans h3,e,D,M.ext J⟩
   |hole=>exact S.trans this
   |map es =>
    obtain⟨b',ms,c,h3,e,D⟩:=this;exact⟨b',ms,c,S.trans h3,e,D.keep J.keep⟩
  apart:=fun i b' o hi H=>by
   rw[Zae]at hi;rcases val i b' hi H with⟨_,h2⟩|⟨d,_,h3⟩
   ·subst h2;exact u.apart l b' o A U
   exact u.apart i b' o d h3
  old:=u.old
  still:=(u.carry J).1
  base:=(u.carry J).2}
theorem Zk5(E:Rel μ h w)(G:Rep μ h w x v):∃μ':Mp Bs,Rel μ' (ZcZ h x).2 w∧Ext μ h w μ' (ZcZ h x).2 w∧Rep μ' (ZcZ h x).2 w (ZcZ h x).1 v:=by
 have e:∃μ':Mp Bs,Rel μ' h w∧Ext μ h w μ' h w∧Rep μ' h w x v:=⟨μ,E,Ext.refl _ _ _,G⟩;unfold ZcZ;split
 ·rename_i l n m;split
  ·rename_i z rs H;split
   ·rename_i hc;obtain⟨W,a0,h0⟩:=hc;obtain⟨cap,b,vs,T,rfl,h5,h6,X,⟨fz,Y,J⟩,M,O,Q⟩:=Zaj E H W (by omega) G;have A:fz=(0,0):=by
     rcases J with h|⟨h,_⟩
     ·exact h
     simp at h
    subst A;have u:(rs.take m).length=m:=by simp;omega
    have S:(rs.take m).length*z≤vs.size:=by rw[u];exact Uu (VT _ (by omega:m≤rs.length)) M
    have D:RowsN μ h w z (rs.take m) vs:=fun i row d=>by
     rw[Us]at d;split at d
     ·exact Q i row d
     simp at d
    have Z:=Rel.kill E H X Y S D;have q2:Ext μ h w ((μ.set l none).set h.length (some b)) (Zck h l z rs.length (rs.take m)) w:=Ext.kill H X;rw[W]at Z q2;refine⟨_,Z,q2,?_⟩;refine⟨z,rs.take m,true,_,cap,ZjT,by rw[u];exact Vw _,rfl,fun _=>⟨by omega,fun a1=>by omega,.inr ⟨b,vs,T,by simp,set_same _ _,⟨_,Y⟩,by simpa using O⟩⟩⟩
   split
   ·rename_i U;subst U;obtain⟨z2,rs2,a2,base,cap,h1,h2,rfl,h4⟩:=G;exact⟨μ,E,Ext.refl _ _ _,base,cap,rfl,UB _,.inl rfl⟩
   exact e
  exact e
 exact e
end
section
variable{Bs:World→Prop}
def JH(C:Cfg)(f n:Nat):Code→Prop
 |.region id ops draw=>OpsFit n ops∧(draw=true→∃B,Ordered (C.dyn f id) ops B)
 |.seq a b| .cond _ a b=>JH C f n a∧JH C f n b
 |.block _ c| .loop c=>JH C f n c
 |_=>True
def Zzy(C:Cfg)(f:Nat):Prop:=∃fn c,C.P.funcs[f]?=some fn∧fn.body=some c∧(fn.name == "runtime.NumGoroutine")=false∧JH C f fn.ntmps c
structure CfgOk(Bs:World→Prop)(C:Cfg):Prop where
 prim:∀f args v,C.prim f args=some v→Go.Proofs.Enters C.P f∧Yr Bs C.P f args [] v []
 primH:∀f args h r h',C.primH f args h=some (r,h')→Go.Proofs.Enters C.P f∧Yr Bs C.P f args h r h'
 good:∀f,C.good f=true→Zzy C f
 mixed:C.P.follows .mixedOrders=true
def ZAF(C:Cfg)(f n:Nat):It→Prop
 |.code c=>JH C f n c
 |.blk _ _=>True
 |.lp c _ _=>JH C f n c
 |.pst _ _=>True
def ItsOk(C:Cfg)(f n:Nat)(ks:List It):Prop:=∀x,x∈ks→ZAF C f n x
def QT:List It→List Item
 |[]=>[]
 |.code c::ks=>.code c::QT ks
 |.blk id _::ks=>.inBlock id::QT ks
 |.lp c _ _::ks=>.inLoop c::QT ks
 |.pst _ _::ks=>QT ks
theorem Qz{id n:Nat}:∀{ks d:List It},Go.Ab.unwind id ks=some (n,d)→exitTo id (QT ks)=some (QT d)∧∀x,x∈d→x∈ks
 |[],_,e=>by simp[Go.Ab.unwind]at e
 |.blk j m::ks,d,e=>by
  simp only[Go.Ab.unwind]at e;by_cases D:j=id
  ·simp only[D,V7,Va,Vp]at e;obtain⟨_,rfl⟩:=e;exact⟨by simp[QT,exitTo,D],fun x u=>VD _ u⟩
  simp only[D,UA]at e;obtain⟨A,h2⟩:=Qz e;exact⟨by simp[QT,exitTo,D,A],fun x u=>VD _ (h2 x u)⟩
 |.code c::ks,d,e=>by simp only[Go.Ab.unwind]at e;obtain⟨A,h2⟩:=Qz e;exact⟨by simp[QT,exitTo,A],fun x u=>VD _ (h2 x u)⟩
 |.lp c _ _::ks,d,e=>by simp only[Go.Ab.unwind]at e;obtain⟨A,h2⟩:=Qz e;exact⟨by simp[QT,exitTo,A],fun x u=>VD _ (h2 x u)⟩
 |.pst _ _::ks,d,e=>by simp only[Go.Ab.unwind]at e;obtain⟨A,h2⟩:=Qz e;exact⟨by simp[QT,A],fun x u=>VD _ (h2 x u)⟩
def Ran(P:Program)(fn:Func)(m:Machine)(b:Frame)(cs:List Frame)(μ0:Mp Bs)(h0:Za)(w0:World)(r:AV)(h':Za):Prop :=
 ∃(a':Act) (todo:List Item) (w':World) (v:Value) (μ':Mp Bs),Steps P m (lone {b.at a' todo with mode:=.returning} cs w')∧a'.defers=[]∧(results fn a'.tmps).run P w'=.ok v w'∧Rel μ' h' w'∧Ext μ0 h0 w0 μ' h' w'∧Rep μ' h' w' r v
theorem Ran.of_steps{m m':Machine}{b:Frame}{μ0:Mp Bs}{h0:Za}{w0:World}(hs:Steps P m m')(h:Ran P fn m' b cs μ0 h0 w0 r h'):Ran P fn m b cs μ0 h0 w0 r h':=by obtain⟨a',d,w',v,μ',e,h2⟩:=h;exact⟨a',d,w',v,μ',hs.trans e,h2⟩
def Zry(Bs:World→Prop)(C:Cfg)(F:Tk→Res):Prop :=
 ∀f k ks fr h r h',F (.run f k ks fr h)=some (r,h')→∀fn,C.P.funcs[f]?=some fn→ItsOk C f fn.ntmps ks→∀(b:Frame) (cs:List Frame) (a:Act) (μ:Mp Bs) (w:World) (μ0:Mp Bs) (h0:Za) (w0:World),
  h0.length=k→Rel μ h w→Ext μ0 h0 w0 μ h w→FrRel μ h w fr a.tmps→fn.ntmps≤a.tmps.size→a.defers=[]→Ran C.P fn (lone (b.at a (QT ks)) cs w) b cs μ0 h0 w0 r h'
end
section
variable{Bs:World→Prop}
variable{C:Cfg}{F:Tk→Res}{μ μ0:Mp Bs}{h h0 h':Za}{w w0:World}
theorem ZyW{t:TypeId}{u:Value}(e:(Instr.loadAt t v).run P w=.ok u w):(do loadVar t (←asAddr v):Sem Value).run P w=.ok u w:=by
 cases v with
 |pointer p =>
  cases p with
  |some a=>simpa[Instr.loadAt,Instr.sureAddr,asAddr]using e
  |none=>simp[Instr.loadAt,Instr.sureAddr,stuck]at e
 |_=>simp[Instr.loadAt,Instr.sureAddr,stuck]at e
def ZlT(t:Array Value):ResultVar→Sem Value
 |.tmp i=>pure (t.getD i undef)
 |.cell a ty=>do loadVar ty (←asAddr (t.getD a undef))
theorem Zhx{P:Program}{fr:Fr}{t:Array Value}(G:Rel μ h w)(A:FrRel μ h w fr t):∀(l:List ResultVar) (vs:List AV),ZlG P fr h l=some vs→∃us:List Value,RepL μ h w vs us∧(l.mapM (ZlT t)).run P w=.ok us w
 |[],vs,e=>by simp only[ZlG,Va]at e;subst e;exact⟨[],rfl,by simp⟩
 |x::l,vs,e=>by
  simp only[ZlG]at e;split at e
  ·rename_i v d;split at e
   ·rename_i D E;simp only[Va]at e;subst e;obtain⟨us,H,h2⟩:=Zhx G A l D E;cases x with
    |tmp i =>
     simp only[ZxQ,Va]at d;subst d;exact⟨_::us,⟨_,us,rfl,A i,H⟩,by simp[List.mapM_cons,ZlT,h2]⟩
    |cell i t' =>
     simp only[ZxQ]at d;obtain⟨u,h3,J⟩:=Zgs G d (A i);have M:=ZyW h3;refine⟨u::us,⟨u,us,rfl,J,H⟩,?_⟩;have O:(ZlT t (.cell i t')).run P w=.ok u w:=M;simp[List.mapM_cons,O,h2]
   simp at e
  simp at e
theorem Zx7{vs:List AV}{us:List Value}(r:RepL μ h w vs us):Rep μ h w (Zax vs) (if h:us.toArray.size=1 then us.toArray[0]else .tuple us.toArray):=by
 match vs,us,r with
 |[],us,r =>
  have:us=[]:=r;subst this;exact⟨[],rfl,rfl⟩
 |[a],us,r =>
  obtain⟨v,u,rfl,d,h2⟩:=r;have:u=[]:=h2;subst this;simpa[Zax]using d
 |a::b::l,us,r =>
  obtain⟨v,u,rfl,d,v',e,rfl,h2,h3⟩:=r;have:¬((v::v'::e).toArray.size=1):=by simp
  rw[dif_neg this];exact⟨_,rfl,v,_,rfl,d,v',_,rfl,h2,h3⟩
theorem Zjv{vs:List AV}(d:Rel μ h w)(u:FrRel μ h w fr t)(e:ZlG P fr h fn.results.toList=some vs):∃v,(results fn t).run P w=.ok v w∧Rep μ h w (Zax vs) v:=by
 obtain⟨us,A,h2⟩:=Zhx d u _ _ e;refine⟨_,?_,Zx7 A⟩;have:results fn t=(do
   let vs ←fn.results.mapM (ZlT t)
   pure (if h:vs.size=1 then vs[0]else .tuple vs)):=rfl
 rw[this,Array.mapM_eq_mapM_toList];simp[h2]
theorem Zku{f:Nat}{b:Frame}{d:List Item}(Z:C.P.funcs[f]?=some fn)(e:Zfq C f k fr h=some (r,h'))(hk:h0.length=k)(G:Rel μ h w)(J:Ext μ0 h0 w0 μ h w)(hf:FrRel μ h w fr a.tmps)(O:a.defers=[]):
  Ran C.P fn (lone {b.at a d with mode:=.returning} cs w) b cs μ0 h0 w0 r h':=by
 unfold Zfq at e;simp only[Z]at e;unfold Zfg at e;split at e
 ·rename_i vs a0;obtain⟨v,Q,h2⟩:=Zjv G hf a0;have u:∀{keep:Bool},Zb8 k h (Zjl k h (Zj4 keep k h (Zax vs)))=some (r,h')→Ran C.P fn (lone {b.at a d with mode:=.returning} cs w) b cs μ0 h0 w0 r h':=by
   intro keep e;unfold Zb8 at e;split at e
   ·rename_i E;unfold Zjl at e;split at e
    ·rename_i a1 ha;simp only[Va,Vp]at e;obtain⟨rfl,rfl⟩:=e;exact⟨a,d,w,v,μ,.refl _ _,O,Q,G.cut E,J.cut (by omega),ZgY G _ _ v ha h2⟩
    simp at e
   simp at e
  have A:∀z,Zi k (Zk (h.take k))=true→Zax vs=.nils→some (AV.own k 0,h.take k++[Blk.rows z [] false])=some (r,h')→Ran C.P fn (lone {b.at a d with mode:=.returning} cs w) b cs μ0 h0 w0 r h':=by
   intro z E H e;rw[H]at h2;simp only[Va,Vp]at e;obtain⟨rfl,rfl⟩:=e;have M:=G.cut E;have S:(h.take k).length=k:=by have:=J.length_le;simp;omega
   have hp:=Ext.push M (.rows z [] false) none;have hv:v=.slice none 0 0:=h2;refine⟨a,d,w,v,_,.refl _ _,O,Q,Rel.push M (.rows z [] false) none (.inl ⟨Blank.nil,set_same _ _⟩),(J.cut (by omega)).trans hp,?_⟩;have U:(h.take k++[Blk.rows z [] false])[k]?=some (.rows z [] false):=by rw[Vy (by omega),S];simp
   exact⟨z,[],false,none,0,U,Vw _,hv,fun _=>⟨Vw _,fun _=>rfl,.inl rfl⟩⟩
  have D:Zi k (Zk (h.take k))=true→Ze7 k h (Zax vs)=some (r,h')→Ran C.P fn (lone {b.at a d with mode:=.returning} cs w) b cs μ0 h0 w0 r h':=by
   intro E e;unfold Ze7 at e;split at e
   ·rename_i l n H;rw[H]at h2;split at e
    ·rename_i z rs wr hl;split at e
     ·rename_i hc;simp only[Va,Vp]at e;obtain⟨rfl,rfl⟩:=e;obtain⟨μ',W,X,Y⟩:=ZpU G J hk E hl hc.1 hc.2.1 hc.2.2 h2;exact⟨a,d,w,v,μ',.refl _ _,O,Q,W,X,Y⟩
     simp at e
    simp at e
   ·rename_i rs H;rw[H]at h2;simp only[Va,Vp]at e;obtain⟨rfl,rfl⟩:=e;exact⟨a,d,w,v,μ,.refl _ _,O,Q,G.cut E,J.cut (by omega),PRep.keep (Zaa (n:=k)) (.lit rs) v h2⟩
   ·rename_i H;exact A 0 E H e
   simp at e
  split at e
  ·exact u e
  ·unfold Zb8 at e;split at e
   ·rename_i E;exact D E e
   simp at e
  ·exact u e
  ·obtain⟨μ',W,X,Y⟩:=ZeL hk G J h2 e;exact⟨a,d,w,v,μ',.refl _ _,O,Q,W,X,Y⟩
  ·simp only[Va,Vp]at e;obtain⟨rfl,rfl⟩:=e;exact⟨a,d,w,v,μ,.refl _ _,O,Q,G,J,h2⟩
  ·obtain⟨μ1,p1,p2,p3⟩:=Zk5 G h2;obtain⟨μ',W,X,Y⟩:=ZeL hk p1 (J.trans p2) p3 e;exact⟨a,d,w,v,μ',.refl _ _,O,Q,W,X,Y⟩
  rename_i z _ _ _ _ _ _;unfold Zb8 at e;split at e
  ·rename_i E;unfold Zpr at e;split at e
   ·rename_i H;exact A _ E H e
   exact D E e
  simp at e
 simp at e
theorem RepL.set{x:AV}:∀(cs:List AV) (vs:List Value) (j:Nat),RepL μ h w cs vs→(∀v,vs[j]?=some v→Rep μ h w x v)→RepL μ h w (cs.set j x) vs
 |[],vs,j,r,_=>r
 |c::cs,vs,j,r,e=>by
  obtain⟨v,d,rfl,A,h2⟩:=r;cases j with
  |zero=>exact⟨v,d,rfl,e v rfl,h2⟩
  |succ j=>exact⟨v,d,rfl,A,RepL.set cs d j h2 fun u D=>e u (by simpa using D)⟩
theorem JB{x:AV}(d:single x=true):∀(cs:List AV) (j:Nat),singles cs=true→singles (cs.set j x)=true
 |[],_,_=>rfl
 |c::cs,j,e=>by
  simp only[singles,VA]at e;cases j with
  |zero=>simp[singles,d,e.2]
  |succ j=>simp[singles,e.1,JB d cs j e.2]
theorem Jt{t:Array Value}:∀(os:List (Nat×Option Nat×Nat×Bool)) (fr u:Fr) (h h':Za) (μ:Mp Bs),Rel μ h w→FrRel μ h w fr t→QR fr h os=(u,h')→∃μ',Rel μ' h' w∧Ext μ h w μ' h' w∧FrRel μ' h' w u t
 |[],fr,u,h,h',μ,A,D,e=>by simp only[QR,Vp]at e;obtain⟨rfl,rfl⟩:=e;exact⟨μ,A,Ext.refl _ _ _,D⟩
 |(i,some d,z,q)::os,fr,u,h,h',μ,A,D,e=>by
  have rest:QR fr h os=(u,h')→∃μ',Rel μ' h' w∧Ext μ h w μ' h' w∧FrRel μ' h' w u t:=Jt os _ _ _ _ _ A D;simp only[QR]at e;split at e
  ·split at e
   ·rename_i l o hx _ cs hl;split at e
    ·rename_i hn;have M:=Ext.push A (.rows z [] q) none;have E:Rel (μ.set h.length none) (h++[Blk.rows z [] q]) w:=Rel.push A (.rows z [] q) none (.inl ⟨Blank.nil,set_same _ _⟩);have U:=(Vb.1 hl).1;have G:(h++[Blk.rows z [] q])[l]?=some (.cells cs):=by rw[Vh U];exact hl
     obtain⟨b,vs,T,O,h2,h3,h4⟩:=E.blk l _ G;have S:Ext (μ.set h.length none) (h++[Blk.rows z [] q]) w (μ.set h.length none) ((h++[Blk.rows z [] q]).set l (.cells (cs.set (o+d) (.own h.length 0)))) w :=
      Ext.update E G O h2 h2 (fun _ _=>rfl) rfl rfl rfl (Vw _) rfl (fun _ _ H _=>H) (fun _ _=>trivial) trivial
     have Q:h.length≠l:=by omega
     have W:Rel (μ.set h.length none) ((h++[Blk.rows z [] q]).set l (.cells (cs.set (o+d) (.own h.length 0)))) w:=by
      refine Rel.update E G O (fun _ _=>rfl) S ⟨b,vs,T,O,h2,JB rfl _ _ h3,RepL.set cs vs (o+d) (RepL.ext S _ _ h4) fun v H=>?_⟩;have h5:=(RepL.at cs vs h4).2 (o+d) .nils hn;obtain⟨v',h6,h7⟩:=h5;have:v'=v:=by have X:vs[o+d]?=some v':=h6;rw[X]at H;simpa using H
      subst this;have J:v'=.slice none 0 0:=h7;exact⟨z,[],q,none,0,by rw[Vc (fun e=>Q e.symm)];simp,Vw _,J,fun _=>⟨Vw _,fun _=>rfl,.inl rfl⟩⟩
     obtain⟨μ',q1,q2,q3⟩:=Jt os _ _ _ _ _ W (FrRel.ext (M.trans S) D) e;exact⟨μ',q1,(M.trans S).trans q2,q3⟩
    exact rest e
   exact rest e
  exact rest e
 |(i,none,z,q)::os,fr,u,h,h',μ,A,D,e=>by
  simp only[QR]at e;split at e
  ·rename_i hx;have M:=Ext.push A (.rows z [] q) none;have Y:Rel (μ.set h.length none) (h++[.rows z [] q]) w:=Rel.push A (.rows z [] q) none (.inl ⟨Blank.nil,set_same _ _⟩);have H:=D i;rw[hx]at H;have J:t.getD i undef=.slice none 0 0:=H;have Z:FrRel (μ.set h.length none) (h++[.rows z [] q]) w ((i,.own h.length 0)::fr) t:=fun j=>by
    simp only[get];split
    ·rename_i a0;subst a0;exact⟨z,[],q,none,0,by simp,Vw _,J,fun _=>⟨Vw _,fun _=>rfl,.inl rfl⟩⟩
    exact Rep.ext M _ _ (D j)
   obtain⟨μ',O,h2,h3⟩:=Jt os _ _ _ _ _ Y Z e;exact⟨μ',O,M.trans h2,h3⟩
  exact Jt os _ _ _ _ _ A D e
theorem ZbE{t:Array Value}{fr:Fr}:∀(os:List (Nat×Nat×TypeId)) (h:Za) (μ:Mp Bs),Rel μ h w→FrRel μ h w fr t→∃μ',Rel μ' (Qy fr h os) w∧Ext μ h w μ' (Qy fr h os) w∧FrRel μ' (Qy fr h os) w fr t
 |[],h,μ,D,G=>⟨μ,D,Ext.refl _ _ _,G⟩
 |(i,d,ty)::os,h,μ,D,G=>by
  have rest:∃μ',Rel μ' (Qy fr h os) w∧Ext μ h w μ' (Qy fr h os) w∧FrRel μ' (Qy fr h os) w fr t:=ZbE os h μ D G;simp only[Qy];split
  ·rename_i Z l o hx;split
   ·rename_i cs W;split
    ·rename_i hn;have X:=Ext.push D (.rows 1 [] false) none;have u:Rel (μ.set h.length none) (h++[Blk.rows 1 [] false]) w:=Rel.push D (.rows 1 [] false) none (.inl ⟨Blank.nil,set_same _ _⟩);have M:=(Vb.1 W).1;have A:(h++[Blk.rows 1 [] false])[l]?=some (.cells cs):=by rw[Vh M];exact W
     obtain⟨b,vs,T,O,h2,h3,Y⟩:=u.blk l _ A;have H:Ext (μ.set h.length none) (h++[Blk.rows 1 [] false]) w (μ.set h.length none) ((h++[Blk.rows 1 [] false]).set l (.cells (cs.set (o+d) (.town ty h.length 0)))) w :=
      Ext.update u A O h2 h2 (fun _ _=>rfl) rfl rfl rfl (Vw _) rfl (fun _ _ J _=>J) (fun _ _=>trivial) trivial
     have E:h.length≠l:=by omega
     have Q:Rel (μ.set h.length none) ((h++[Blk.rows 1 [] false]).set l (.cells (cs.set (o+d) (.town ty h.length 0)))) w:=by
      refine Rel.update u A O (fun _ _=>rfl) H ⟨b,vs,T,O,h2,JB rfl _ _ h3,RepL.set cs vs (o+d) (RepL.ext H _ _ Y) fun v J=>?_⟩;have h5:=(RepL.at cs vs Y).2 (o+d) .nils hn;obtain⟨v',h6,h7⟩:=h5;have:v'=v:=by have S:vs[o+d]?=some v':=h6;rw[S]at J;simpa using J
      subst this;have U:v'=.slice none 0 0:=h7;exact⟨1,[],false,none,0,by rw[Vc (fun e=>E e.symm)];simp,Vw _,U,fun _=>⟨Vw _,fun _=>rfl,.inl ⟨rfl,rfl⟩⟩⟩
     obtain⟨μ',q1,q2,q3⟩:=ZbE os _ _ Q (FrRel.ext (X.trans H) G);exact⟨μ',q1,(X.trans H).trans q2,q3⟩
    exact rest
   exact rest
  exact rest
theorem OpsFit.mono(h:OpsFit n ops)(e:n≤m):OpsFit m ops:=fun i o u d A=>Ur (h i o u d A) e
theorem ZlB(Q:CfgOk Bs C)(G:Ww Bs C.P F){f id:Nat}{d:Bool}{fr u:Fr}(E:JH C f n (.region id ops d))(H:n≤a.tmps.size)(J:Rel μ h w)(M:FrRel μ h w fr a.tmps)
  (e:ZbV C F f id ops.toList d fr h=some (u,h')):(Code.region id ops d).wp C.P (fun x a' w'=>x=.normal∧∃μ',Rel μ' h' w'∧Ext μ h w μ' h' w'∧FrRel μ' h' w' u a'.tmps∧a'.tmps.size=a.tmps.size∧a'.defers=a.defers) a w:=by
 obtain⟨A,D⟩:=E;have O:ZAV μ h w a u h' (fun x a' w'=>x=.normal∧∃μ',Rel μ' h' w'∧Ext μ h w μ' h' w'∧FrRel μ' h' w' u a'.tmps∧a'.tmps.size=a.tmps.size∧a'.defers=a.defers) :=
  fun a' μ' w' q1 q2 q3 q4 q5=>⟨rfl,μ',q1,q2,q3,q4,q5⟩
 cases d with
 |false =>
  simp only[ZbV]at e;refine wp_region ?_;have:=ZdP G ops.toList 0 fr u h h' a μ w (by simp) (A.mono H) J M e O;simpa[UZ]using this
 |true =>
  simp only[ZbV]at e;obtain⟨B,S⟩:=D rfl;exact Zpb G S Q.mixed (A.mono H) J M e O
end
section
variable{Bs:World→Prop}
variable{C:Cfg}{F:Tk→Res}
theorem ItsOk.cons{x:It}(h:ZAF C f n x)(hs:ItsOk C f n ks):ItsOk C f n (x::ks):=fun y d=>by
 rcases Vn.1 d with rfl|d
 ·exact h
 exact hs y d
theorem ItsOk.tail{x:It}(h:ItsOk C f n (x::ks)):ItsOk C f n ks:=fun y d=>h y (VD _ d)
theorem ItsOk.head{x:It}(h:ItsOk C f n (x::ks)):ZAF C f n x:=h x (by simp)
theorem ZjP:∀(args:List AV) (vs:List Value) (n i:Nat) {μ:Mp Bs} {h:Za} {w:World},RepL μ h w args vs→Rep μ h w (get (QS n args) (n+i)) (vs.getD i undef)
 |[],vs,n,i,_,_,_,r=>by have:vs=[]:=r;subst this;simp[QS,get,Rep,PRep]
 |a::r,vs,n,i,μ,h,w,x=>by
  obtain⟨v,d,rfl,e,h2⟩:=x;simp only[QS,get];cases i with
  |zero=>simpa using e
  |succ i =>
   have:¬n=n+(i+1):=by omega
   rw[Vm this];have:=ZjP r d (n+1) i h2;rw[show n+(i+1)=n+1+i by omega];simpa using this
theorem Zks:∀(args:List AV) (n i:Nat),n+args.length≤i→get (QS n args) i=.any
 |[],_,_,_=>rfl
 |a::r,n,i,hi=>by simp only[VC]at hi;simp only[QS,get];rw[Vm (by omega)];exact Zks r (n+1) i (by omega)
theorem RepL.length{μ:Mp Bs}{h:Za}{w:World}:∀{l:List AV} {vs:List Value},RepL μ h w l vs→l.length=vs.length
 |[],vs,r=>by have:vs=[]:=r;subst this;rfl
 |a::r,vs,x=>by obtain⟨v,d,rfl,_,h2⟩:=x;simp[RepL.length h2]
theorem Zsq{vs:List Value}{μ:Mp Bs}{h:Za}(m:Nat)(r:RepL μ h w args vs):FrRel μ h w (QS 0 args) (vs.toArray++Array.replicate (m-vs.toArray.size) undef):=fun i=>by
 rcases Sc i args.length with hi|hi
 ·have:=ZjP args vs 0 i r;rw[VZ]at this;have d:=r.length;rw[UN,S1 (by simp;omega)];simpa[List.getD_eq_getElem?_getD]using this
 rw[Zks args 0 i (by omega)];exact trivial
theorem ZlY{h:Za}(H:CfgOk Bs C)(J:Zry Bs C F)(M:C.good f=true){os:List (Nat×Nat×TypeId)}(e:enter F f args h os C.P.funcs[f]?=some (r,h')):Go.Proofs.Enters C.P f∧Yr Bs C.P f args h r h':=by
 obtain⟨fn,c,d,E,A,G⟩:=H.good f M;refine⟨Go.Proofs.enters_of d A E,fun μ w vs hr ha cs=>?_⟩;unfold enter at e;simp only[d,E]at e;let b:Frame:={(default:Frame)with fn:=f,kind:=.normal};have u:Frame.enter C.P f vs.toArray .normal=b.at {tmps:=vs.toArray++Array.replicate (fn.ntmps-vs.toArray.size) undef,defers:=[]} [.code c]:=by simp[Frame.enter,Frame.at,d,E,b]
 obtain⟨μ1,O,Q,S⟩:=ZbE os h μ hr (Zsq (fn.ntmps) ha);obtain⟨a',D,w',v,μ',U,h2,h3,W,X,Y⟩:=J f _ [.code c] _ _ r h' e fn d (ItsOk.cons G (fun _ Z=>by simp at Z)) b cs
  {tmps:=vs.toArray++Array.replicate (fn.ntmps-vs.toArray.size) undef,defers:=[]} μ1 w μ1 _ w rfl O (Ext.refl _ _ _) S (by simp;omega) rfl
 refine⟨.returned v,w',{b.at a' D with mode:=.returning},⟨v,μ',rfl,W,Q.trans X,Y⟩,?_,rfl,rfl,h2,rfl,fn,d,h3⟩;rw[u];exact U
end
section
variable{Bs:World→Prop}
variable{C:Cfg}{F:Tk→Res}
variable{μ μ0:Mp Bs}{h h0:Za}{w w0:World}
theorem Zko:∀{h:Za} {x:Nat},x∈Zk h→∃(i:Nat) (k:Blk),h[i]?=some k∧x∈ZA k
 |[],x,d=>by simp[Zk]at d
 |b::r,x,d=>by
  simp only[Zk,Vg]at d;rcases d with d|d
  ·exact⟨0,b,rfl,d⟩
  obtain⟨i,k,e,h2⟩:=Zko d;exact⟨i+1,k,by simpa using e,h2⟩
theorem ZwA(M:Rel μ h w)(A:h[l]?=some (.rows z rs wr))(Q:rs.length=n)(W:Zz rs=[])(u:OwnRep μ h w l n v):
  ∃d,Rel μ (h.set l (.rows z rs d)) w∧Ext μ h w μ (h.set l (.rows z rs d)) w∧PRep (Mut μ (h.set l (.rows z rs d))) w (.rows rs) v:=by
 have E:l<h.length:=(Vb.1 A).1;by_cases h0:rs=[]
 ·refine⟨wr,?_⟩;have hs:h.set l (.rows z rs wr)=h:=by
   apply UD;intro i;by_cases hi:l=i
   ·subst hi;rw[Vf E,A]
   rw[Vc hi]
  rw[hs];refine⟨M,Ext.refl _ _ _,?_⟩;obtain⟨z',rs',d,base,cap,e,_,rfl,u⟩:=u;subst h0;have:n=0:=by simpa using Q.symm
  subst this;exact⟨base,cap,rfl,UB _,.inl rfl⟩
 refine⟨false,?_⟩;rcases M.blk l _ A with⟨_,D⟩|⟨b,vs,T,D,⟨X,h2,G⟩,h3,Y⟩
 ·exfalso;obtain⟨z',rs',d,base,cap,e,_,rfl,u⟩:=u;rw[A]at e;simp only[Va,Blk.rows.injEq]at e;obtain⟨rfl,rfl,rfl⟩:=e;obtain⟨q1,_,U⟩:=u Q.symm;rcases U with U|⟨b,vs,T,_,Z,_⟩
  ·exact h0 (VS.1 (by omega))
  rw[Z]at D;simp at D
 have O:Ext μ h w μ (h.set l (.rows z rs false)) w:=Ext.update M A D h2 h2 (fun _ _=>rfl) rfl rfl rfl (Vw _) rfl (fun _ _ u _=>u) (fun o H=>by
  rcases H with H|H
  ·simp at H
  exact .inr H) ⟨rfl,Vw _⟩
 have J:Rel μ (h.set l (.rows z rs false)) w:=Rel.update M A D (fun _ _=>rfl) O (.inr ⟨b,vs,T,D,⟨X,h2,by
  rcases G with G|G
  ·exact .inl G
  exact .inr ⟨rfl,G.2⟩⟩,h3,Y.ext O⟩)
 refine⟨J,O,?_⟩;have S:OwnRep μ (h.set l (.rows z rs false)) w l n v:=Rep.ext O (.own l n) v u;obtain⟨base,cap,h5,h6,h7⟩:=ZbL J (Vf E) Q W S;refine⟨base,cap,h5,h6,h7.imp id ?_⟩;rintro⟨b,h8,h9⟩;exact⟨b,0,z,h8,h9⟩
theorem Zky{l d:Nat}{K:Blk}(hk:h0.length=k)(A:l<h.length)(u:l≠d)(c2:k≤l)(U:l∉Zz rs)(W:(Qv fr).contains l=false)(X:(Zk (h.set d K)).contains l=false)
  (Y:Rel μ ((h.set l (.rows z rs wr)).set d K) w) (Z:Ext μ0 h0 w0 μ ((h.set l (.rows z rs wr)).set d K) w) (hf:FrRel μ ((h.set l (.rows z rs wr)).set d K) w fr t) :
  ∃μ',Rel μ' ((h.set l .hole).set d K) w∧Ext μ0 h0 w0 μ' ((h.set l .hole).set d K) w∧FrRel μ' ((h.set l .hole).set d K) w fr t:=by
 have M:l∉Zk ((h.set l (.rows z rs wr)).set d K):=fun J=>by
  obtain⟨j,k',D,J⟩:=Zko J;by_cases E:l=j
  ·subst E;rw[Vc (Ne.symm u),Vf A]at D;simp only[Va]at D;subst D;exact U J
  rw[Pr _ _ u,Vc E]at D;exact absurd (Wo D _ J) (by simpa using X)
 have e:l<((h.set l (.rows z rs wr)).set d K).length:=by simpa using A
 have O:((h.set l (.rows z rs wr)).set d K).set l .hole=(h.set l .hole).set d K:=by rw[Pr _ _ (Ne.symm u),Uq]
 have Q:l∉Qv fr:=by simpa using W
 have S:=Y.toHole e M;have G:=Z.toHole e (by omega);have H:FrRel (μ.set l none) (((h.set l (.rows z rs wr)).set d K).set l .hole) w fr t:=fun j=>ZhO e (fun hx=>Q (FrRel.cut.get_locs _ _ _ hx)) (hf j);rw[O]at S G H;exact⟨_,S,G,H⟩
theorem ZpK(hk:h0.length=k)(i d:Nat)(Q:Rel μ h w)(ex:Ext μ0 h0 w0 μ h w)(hf:FrRel μ h w fr t):∃μ',Rel μ' (Zpx k fr i d h) w∧Ext μ0 h0 w0 μ' (Zpx k fr i d h) w∧FrRel μ' (Zpx k fr i d h) w fr t:=by
 have rest:∃μ',Rel μ' h w∧Ext μ0 h0 w0 μ' h w∧FrRel μ' h w fr t:=⟨μ,Q,ex,hf⟩;unfold Zpx;split
 ·rename_i G o hx;split
  ·rename_i cs A;split
   ·rename_i l n hc;split
    ·rename_i z rs wr S;split
     ·rename_i U;obtain⟨c1,c2,cz,c3,c4⟩:=U;have W:l<h.length:=(Vb.1 S).1;have H:l≠G:=fun e=>by subst e;rw[S]at A;simp at A
      obtain⟨b,vs,T,X,h2,h3,h4⟩:=Q.blk G _ A;obtain⟨v,Y,Z⟩:=(RepL.at cs vs h4).2 (o+d) _ hc;obtain⟨D,r1,e1,p1⟩:=ZwA Q S c1 cz Z;have E:(h.set l (.rows z rs D))[G]?=some (.cells cs):=by rw[Vc H];exact A
      have J:Ext μ (h.set l (.rows z rs D)) w μ ((h.set l (.rows z rs D)).set G (.cells (cs.set (o+d) (.rows rs)))) w :=
       Ext.update r1 E X h2 h2 (fun _ _=>rfl) rfl rfl rfl (Vw _) rfl (fun _ _ hv _=>hv) (fun _ _=>trivial) trivial
      have r2:Rel μ ((h.set l (.rows z rs D)).set G (.cells (cs.set (o+d) (.rows rs)))) w:=by
       refine Rel.update r1 E X (fun _ _=>rfl) J ⟨b,vs,T,X,h2,JB rfl _ _ h3,RepL.set cs vs (o+d) (RepL.ext J _ _ (RepL.ext e1 _ _ h4)) fun u M=>?_⟩;have:u=v:=by have O:vs[o+d]?=some v:=Y;rw[O]at M;simpa using M.symm
       subst this;exact Rep.ext J (.rows rs) _ (Rep.pure _ _ p1)
      have a0:l∉Zz rs:=by rw[cz];simp
      exact Zky hk W H c2 a0 c3 c4 r2 ((ex.trans e1).trans J) (FrRel.ext J (FrRel.ext e1 hf))
     exact rest
    exact rest
   exact rest
  exact rest
 exact rest
theorem SomeRow.same{vs d:Array Value}{T T':TypeId}(a:SomeRow w b vs T)(a':SomeRow w b d T'):vs=d:=by obtain⟨f,a⟩:=a;obtain⟨e,a'⟩:=a';rw[a]at a';simp only[Va,SB]at a';exact a'.1
theorem RowsN.cell{vs:Array Value}{a':AV}(r:RowsN μ h w z rs vs)(hi:rs[i]?=some row)(hs:single a'=true)(H:∀v,vs[i*z+c]?=some v→Rep μ h w a' v):RowsN μ h w z (rs.set i (row.set c a')) vs:=fun j row' E=>by
 by_cases e:i=j
 ·subst e;rw[Vf (Vb.1 hi).1]at E;obtain rfl:=Ux E;obtain⟨J,h2,h3⟩:=r i row hi;refine⟨by simpa using J,JB hs _ _ h2,fun d b u=>?_⟩;by_cases A:c=d
  ·subst A;have D:c<row.length:=by have:=(Vb.1 u).1;simpa using this
   rw[Vf D]at u;obtain rfl:=Ux u;obtain⟨v,G,_⟩:=h3 c _ (VB D);exact⟨v,G,H v G⟩
  rw[Vc A]at u;exact h3 d b u
 rw[Vc e]at E;exact r j row' E
theorem Zf1(u:Rel μ h w){a:AV}(A:h[l]?=some (.rows z rs wr))(hi:rs[i]?=some row)(d:row[c]?=some a):∃b vs T v,μ l=some b∧SomeRow w b vs T∧vs[i*z+c]?=some v∧Rep μ h w a v:=by
 rcases u.blk l _ A with⟨e,_⟩|⟨b,vs,T,e,⟨D,h2,J⟩,h3,E⟩
 ·rw[e.at hi]at d;simp at d
 obtain⟨v,G,H⟩:=(E i row hi).2.2 c a d;exact⟨b,vs,T,v,e,⟨D,h2⟩,G,H⟩
theorem Zem(D:Rel μ h w){a':AV}(E:h[l]?=some (.rows z rs wr))(hi:rs[i]?=some row)(hs:single a'=true)
  (M:∀b vs T v,μ l=some b→SomeRow w b vs T→vs[i*z+c]?=some v→Rep μ h w a' v):Rel μ (h.set l (.rows z (rs.set i (row.set c a')) wr)) w∧Ext μ h w μ (h.set l (.rows z (rs.set i (row.set c a')) wr)) w:=by
 rcases D.blk l _ E with⟨d,_⟩|⟨b,vs,T,d,⟨J,h2,O⟩,h3,Q⟩
 ·have e:row=[]:=d.at hi;subst e;have hs:rs.set i (([]:List AV).set c a')=rs:=by
   apply UD;intro j;by_cases u:i=j
   ·subst u;rw[Vf (Vb.1 hi).1,hi];rfl
   rw[Vc u]
  rw[hs,W9 E];exact⟨D,Ext.refl _ _ _⟩
 have G:Ext μ h w μ (h.set l (.rows z (rs.set i (row.set c a')) wr)) w:=Ext.update D E d h2 h2 (fun _ _=>rfl) rfl rfl rfl (Vw _) rfl (fun _ _ H _=>H) (fun o A=>by
   rcases A with A|A
   ·exact .inl A
   exact .inr (by simpa using A)) ⟨rfl,by simp⟩
 refine⟨Rel.update D E d (fun _ _=>rfl) G (.inr ⟨b,vs,T,d,⟨J,h2,by simpa using O⟩,by simpa using h3,?_⟩),G⟩;exact(Q.cell hi hs fun v H=>M b vs T v d ⟨J,h2⟩ H).ext G
theorem ZdS(hk:h0.length=k)(j c:Nat)(x:Option (Nat×Nat))(u:Rel μ h w)(M:Ext μ0 h0 w0 μ h w)(O:FrRel μ h w fr t):∃μ',Rel μ' (Zm7 k fr h j c x) w∧Ext μ0 h0 w0 μ' (Zm7 k fr h j c x) w∧FrRel μ' (Zm7 k fr h j c x) w fr t:=by
 have rest:∃μ',Rel μ' h w∧Ext μ0 h0 w0 μ' h w∧FrRel μ' h w fr t:=⟨μ,u,M,O⟩;unfold Zm7;split
 ·rename_i l n;split
  ·split
   ·rename_i z rs wr A;split
    ·rename_i row hi;split
     ·rename_i l' n' J;split
      ·rename_i z' ts a4 d;split
       ·rename_i Q;obtain⟨c1,c2,S,c3,c4⟩:=Q;have U:l'<h.length:=(Vb.1 d).1;have D:l'≠l:=fun e=>by subst e;rw[A]at d;simp only[Va,Blk.rows.injEq]at d;obtain⟨_,rfl,_⟩:=d;have:=ZbB (Zdm S (Ve hi)) (Ve J);simp[locs]at this
        obtain⟨b,vs,T,v,W,X,Y,Z⟩:=Zf1 u A hi J;obtain⟨a0,r1,e1,p1⟩:=ZwA u d c1 S Z;have a1:(h.set l' (.rows z' ts a0))[l]?=some (.rows z rs wr):=by rw[Vc D];exact A
        obtain⟨r2,E⟩:=Zem (c:=c) (a':=.rows ts) r1 a1 hi rfl fun b' a2 T' v' G q2 H=>by rw[W]at G;obtain rfl:=Ux G;obtain rfl:=q2.same X;rw[Y]at H;obtain rfl:=Ux H;exact Rep.pure _ _ p1
        have a3:l'∉Zz ts:=by rw[S];simp
        exact Zky hk U D c2 a3 c3 c4 r2 ((M.trans e1).trans E) (FrRel.ext E (FrRel.ext e1 O))
       exact rest
      exact rest
     ·rename_i J;obtain⟨b,vs,T,v,W,X,Y,Z⟩:=Zf1 u A hi J;obtain⟨r2,E⟩:=Zem (c:=c) (a':=.rows []) u A hi rfl fun b' a2 T' v' G q2 H=>by rw[W]at G;obtain rfl:=Ux G;obtain rfl:=q2.same X;rw[Y]at H;obtain rfl:=Ux H;have hv:v=.slice none 0 0:=Z;exact⟨none,0,hv,Vw _,.inl rfl⟩
      exact⟨μ,r2,M.trans E,FrRel.ext E O⟩
     exact rest
    exact rest
   exact rest
  exact rest
 exact rest
theorem Zo2(c z:Nat)(q:Bool)(x:Option (Nat×Nat))(u:Rel μ h w)(D:Ext μ0 h0 w0 μ h w)(E:FrRel μ h w fr t):∃μ',Rel μ' (ZsP h c z q x) w∧Ext μ0 h0 w0 μ' (ZsP h c z q x) w∧FrRel μ' (ZsP h c z q x) w fr t:=by
 have rest:∃μ',Rel μ' h w∧Ext μ0 h0 w0 μ' h w∧FrRel μ' h w fr t:=⟨μ,u,D,E⟩;unfold ZsP;split
 ·rename_i l n;split
  ·rename_i y rs wr G;split
   ·rename_i row hi;split
    ·rename_i Q;have H:=Ext.push u (.rows z [] q) none;have d:Rel (μ.set h.length none) (h++[Blk.rows z [] q]) w:=Rel.push u (.rows z [] q) none (.inl ⟨Blank.nil,set_same _ _⟩);have A:=(Vb.1 G).1;have e:(h++[Blk.rows z [] q])[l]?=some (.rows y rs wr):=by rw[Vh A];exact G
     obtain⟨b,vs,T,v,S,U,W,X⟩:=Zf1 d e hi Q;obtain⟨Y,J⟩:=Zem (c:=c) (a':=.own h.length 0) d e hi rfl fun b' Z T' v' M q2 O=>by rw[S]at M;obtain rfl:=Ux M;obtain rfl:=q2.same U;rw[W]at O;obtain rfl:=Ux O;have hv:v=.slice none 0 0:=X;exact⟨z,[],q,none,0,by simp,Vw _,hv,fun _=>⟨Vw _,fun _=>rfl,.inl rfl⟩⟩
     exact⟨_,Y,D.trans (Ext.trans H J),FrRel.ext (Ext.trans H J) E⟩
    exact rest
   exact rest
  exact rest
 exact rest
theorem Zol(σ:Nat→Nat):∀(fr:Fr) (i:Nat),get (Zvu σ fr) i=ren σ (get fr i)
 |[],_=>rfl
 |(j,v)::r,i=>by
  simp only[Zvu,get];split
  ·rfl
  exact Zol σ r i
theorem Zp4(H:h0.length=k)(A:Rel μ h w)(D:Ext μ0 h0 w0 μ h w)(E:FrRel μ h w fr t):∃μ',Rel μ' (tidy k fr h).2 w∧Ext μ0 h0 w0 μ' (tidy k fr h).2 w∧FrRel μ' (tidy k fr h).2 w (tidy k fr h).1 t:=by
 subst H;have rest:∃μ',Rel μ' h w∧Ext μ0 h0 w0 μ' h w∧FrRel μ' h w fr t:=⟨μ,A,D,E⟩;unfold tidy ZpJ;obtain⟨s,hs⟩:=ZaA h 1000 (Zk (h.take h0.length)++Qv fr) (List.range h0.length);have d:=Wc h 1000 (Zk (h.take h0.length)++Qv fr) (List.range h0.length) PO;generalize Y7 h 1000 (Zk (h.take h0.length)++Qv fr) (List.range h0.length)=ls at hs d ⊢;split
 ·rename_i hh e;split
  ·rename_i G;obtain⟨J,M⟩:=Zeb h _ _ _ e;have u:IsPart h ls hh:=⟨d,J,M,YI G.1⟩;refine⟨Zba μ ls,u.prel A,u.pext (fun i hi=>?_) ?_ D,fun i=>?_⟩
   ·rw[hs,Vh (by simpa using hi)];simp[hi]
   ·rw[hs];simp
   rw[Zol];exact u.prep (fun l O=>(Wq _ _).1 (YI G.2 _ (UQ (FrRel.cut.get_locs _ _ _ O)))) (E i)
  exact rest
 exact rest
theorem Zo7(A:h0.length=k)(i c:Nat)(d:Rel μ h w)(e:Ext μ0 h0 w0 μ h w)(u:FrRel μ h w fr t):∃μ',Rel μ' (Zp5 k fr h i c) w∧Ext μ0 h0 w0 μ' (Zp5 k fr h i c) w∧FrRel μ' (Zp5 k fr h i c) w fr t:=by
 unfold Zp5;split
 ·exact ZdS A _ _ _ d e u
 exact⟨μ,d,e,u⟩
theorem ZhX{t:Array Value}{k:Nat}{fr:Fr}(A:h0.length=k)(c:Nat)(x:Option (Nat×Nat)):∀(q:Nat) (h:Za) (μ:Mp Bs),Rel μ h w→Ext μ0 h0 w0 μ h w→FrRel μ h w fr t→∃μ',Rel μ' (Zsg k fr c x q h) w∧Ext μ0 h0 w0 μ' (Zsg k fr c x q h) w∧FrRel μ' (Zsg k fr c x q h) w fr t
 |0,h,μ,d,e,u=>⟨μ,d,e,u⟩
 |q+1,h,μ,d,e,u=>by obtain⟨μ',D,E,G⟩:=ZdS A q c x d e u;exact ZhX A c x q _ μ' D E G
theorem Xz{t:Array Value}{k:Nat}(D:h0.length=k):∀(c:List Pop) (fr:Fr) (h:Za) (μ:Mp Bs),Rel μ h w→Ext μ0 h0 w0 μ h w→FrRel μ h w fr t→∃μ',Rel μ' (Za4 k c fr h).2 w∧Ext μ0 h0 w0 μ' (Za4 k c fr h).2 w∧FrRel μ' (Za4 k c fr h).2 w (Za4 k c fr h).1 t
 |[],fr,h,μ,e,u,A=>⟨μ,e,u,A⟩
 |.cell i d::r,fr,h,μ,e,u,A=>by obtain⟨μ',E,G,H⟩:=ZpK D i d e u A;exact Xz D r _ _ _ E G H
 |.row i d j c::r,fr,h,μ,e,u,A=>by obtain⟨μ',E,G,H⟩:=ZdS D j c (ZdI fr h i d) e u A;exact Xz D r _ _ _ E G H
 |.new i d c z q::r,fr,h,μ,e,u,A=>by obtain⟨μ',E,G,H⟩:=Zo2 c z q (ZdI fr h i d) e u A;exact Xz D r _ _ _ E G H
 |.tidy::r,fr,h,μ,e,u,A=>by obtain⟨μ',E,G,H⟩:=Zp4 D e u A;exact Xz D r _ _ _ E G H
 |.whenF i::r,fr,h,μ,e,u,A=>by
  simp only[Za4];split
  ·exact Xz D r _ _ _ e u A
  exact⟨μ,e,u,A⟩
 |.whenN i d c::r,fr,h,μ,e,u,A=>by
  simp only[Za4];split
  ·exact Xz D r _ _ _ e u A
  exact⟨μ,e,u,A⟩
 |.whenT i::r,fr,h,μ,e,u,A=>by
  simp only[Za4];split
  ·exact Xz D r _ _ _ e u A
  exact⟨μ,e,u,A⟩
 |.inner i d j c J::r,fr,h,μ,e,u,A=>by obtain⟨μ',E,G,H⟩:=ZhX D J (ZoB h j c (ZdI fr h i d)) (ZBK (ZoB h j c (ZdI fr h i d))) h μ e u A;exact Xz D r _ _ _ E G H
 |.opt i c::r,fr,h,μ,e,u,A=>by obtain⟨μ',E,G,H⟩:=Zo7 D i c e u A;exact Xz D r _ _ _ E G H
 |.keep l::r,fr,h,μ,e,u,A=>Xz D r _ _ _ e u (A.restr l)
end
section
variable{Bs:World→Prop}
variable{C:Cfg}{F:Tk→Res}
theorem ZnY(A:Zry Bs C F){f k:Nat}{h:Za}{o:Option (List Nat)}(e:ZaW F f k ks n fr h o=some (r,h'))(d:C.P.funcs[f]?=some fn)(u:ItsOk C f fn.ntmps ks){b:Frame}{μ:Mp Bs}{w:World}{μ0:Mp Bs}{h0:Za}{w0:World}
  (D:h0.length=k) (E:Rel μ h w) (G:Ext μ0 h0 w0 μ h w) (H:FrRel μ h w fr a.tmps) (J:fn.ntmps≤a.tmps.size) (M:a.defers=[]):Ran C.P fn (lone (b.at a (QT ks)) cs w) b cs μ0 h0 w0 r h':=by
 cases o with
 |none=>exact A f k ks fr h r h' e fn d u b cs a μ w μ0 h0 w0 D E G H J M
 |some l =>
  simp only[ZaW]at e;split at e
  ·rename_i O;simp only[VA,VK]at O;obtain⟨Q,h2,h3⟩:=O;exact A f k ks _ _ r h' e fn d u b cs a μ w μ0 h0 w0 D (E.cut h3) (G.cut (by omega)) (FrRel.cut h2 (H.restr l)) J M
  exact A f k ks _ _ r h' e fn d u b cs a μ w μ0 h0 w0 D E G (H.restr l) J M
theorem Zot{f n id:Nat}{ks:List It}(h:ItsOk C f n ks):∀ps:List (Nat×List Nat×List Pop),ItsOk C f n (ZcE id ks ps)∧QT (ZcE id ks ps)=QT ks
 |[]=>⟨h,rfl⟩
 |(j,l,c)::r=>by
  simp only[ZcE];split
  ·exact⟨ItsOk.cons (x:=.pst l c) trivial h,rfl⟩
  exact Zot h r
theorem Zsm(hC:CfgOk Bs C)(hF:Ww Bs C.P F)(A:Zry Bs C F):Zry Bs C (Xx C F):=by
 intro f k ks fr h r h' e fn u d b cs a μ w μ0 h0 w0 hk hr ex hf hn hd
 match ks,d,e with
 |[],_,e=>exact Ran.of_steps (.one step_end) (Zku u e hk hr ex hf hd)
 |.blk id n::ks,d,e=>exact Ran.of_steps (.one step_inBlock) (ZnY A e u d.tail hk hr ex hf hn hd)
 |.lp c none n::ks,d,e=>exact Ran.of_steps (.one step_inLoop) (A f k _ fr h r h' e fn u (ItsOk.cons d.head d) b cs a μ w μ0 h0 w0 hk hr ex hf hn hd)
 |.lp c (some live) n::ks,d,e =>
  simp only[Xx,ZbN,ZfS]at e;split at e
  ·rename_i Q W Y;obtain⟨μ1,H,J,M⟩:=Zab hk live.2 _ _ _ _ _ hr ex (hf.restr live.1) Y;split at e
   ·rename_i D;simp only[VA,VK]at D;obtain⟨c1,c2,c3⟩:=D;exact Ran.of_steps (.one step_inLoop) (A f k _ _ _ r h' e fn u (ItsOk.cons d.head d) b cs a μ1 w μ0 h0 w0 hk (H.cut c3) (J.cut (by omega)) (FrRel.cut c2 M) hn hd)
   exact Ran.of_steps (.one step_inLoop) (A f k _ _ _ r h' e fn u (ItsOk.cons d.head d) b cs a μ1 w μ0 h0 w0 hk H J M hn hd)
  simp at e
 |.pst l c::ks,d,e =>
  simp only[Xx]at e;obtain⟨μ1,H,J,M⟩:=Xz hk c _ _ _ hr ex (hf.restr l);exact Ran.of_steps (.refl _ _) (A f k ks _ _ r h' e fn u d.tail b cs a μ1 w μ0 h0 w0 hk H J M hn hd)
 |.code c::ks,d,e =>
  have D:JH C f fn.ntmps c:=d.head;cases c with
  |skip=>exact Ran.of_steps (.one step_skip) (A f k ks fr h r h' e fn u d.tail b cs a μ w μ0 h0 w0 hk hr ex hf hn hd)
  |seq x y=>exact Ran.of_steps (.one step_seq) (A f k _ fr h r h' e fn u (ItsOk.cons D.1 (ItsOk.cons D.2 d.tail)) b cs a μ w μ0 h0 w0 hk hr ex hf hn hd)
  |region id ops a0 =>
   simp only[Xx,ZdL]at e;split at e
   ·rename_i Q W S;obtain⟨x,a1,w1,⟨rfl,μ1,H,J,M,q4,q5⟩,U⟩:=ZlB hC hF D hn hr hf S b (QT ks) cs;have hp:=Zot (id:=id) d.tail (C.post f);have O:=A f k _ Q W r h' e fn u hp.1 b cs a1 μ1 w1 μ0 h0 w0 hk H (ex.trans J) M (by omega) (by rw[q5];exact hd);rw[hp.2]at O;exact Ran.of_steps U O
   simp at e
  |cond x p q =>
   simp only[Xx,ZcD]at e;split at e
   ·rename_i t ht;have X:=Zul hf x;rw[ht]at X;have Z:a.eval x=.bool t:=X;have E:=step_cond (P:=C.P) (b:=b) (k:=QT ks) (cs:=cs) (w:=w) (x:=p) (y:=q) Z;cases t with
    |true=>exact Ran.of_steps (.one E) (A f k _ fr h r h' e fn u (ItsOk.cons D.1 d.tail) b cs a μ w μ0 h0 w0 hk hr ex hf hn hd)
    |false=>exact Ran.of_steps (.one E) (A f k _ fr h r h' (by simpa using e) fn u (ItsOk.cons (x:=.code q) D.2 d.tail) b cs a μ w μ0 h0 w0 hk hr ex hf hn hd)
   simp at e
  |block id c =>
   have G:F (.run f k (.code c::.blk id h.length::ks) fr h)=some (r,h')→Ran C.P fn (lone (b.at a (QT (.code (.block id c)::ks))) cs w) b cs μ0 h0 w0 r h':=fun e =>
    Ran.of_steps (.one step_block) (A f k _ fr h r h' e fn u (ItsOk.cons (x:=.code c) D (ItsOk.cons (x:=.blk id h.length) trivial d.tail)) b cs a μ w μ0 h0 w0 hk hr ex hf hn hd)
   simp only[Xx,Zdl]at e;split at e
   ·rename_i live os fz hl;split at e
    ·rename_i c';unfold Zeh at e;split at e
     ·rename_i a2 h2 Y;obtain⟨μ1,H,J,M⟩:=Jt os fr _ h _ μ hr hf rfl;obtain⟨μ2,p1,p2,p3⟩:=Zab hk fz _ _ _ _ _ H (ex.trans J) (M.restr live) Y;exact Ran.of_steps (.head step_block (.one step_loop)) (A f k _ _ _ r h' e fn u (ItsOk.cons (x:=.code c') D (ItsOk.cons (x:=.lp c' _ _) D (ItsOk.cons (x:=.blk id _) trivial d.tail))) b cs a μ2 w μ0 h0 w0 hk p1 p2 p3 hn hd)
     simp at e
    exact G e
   exact G e
  |loop c=>exact Ran.of_steps (.one step_loop) (A f k _ fr h r h' e fn u (ItsOk.cons (x:=.code c) D (ItsOk.cons (x:=.lp c none 0) D d.tail)) b cs a μ w μ0 h0 w0 hk hr ex hf hn hd)
  |exit id =>
   simp only[Xx,Zkg]at e;split at e
   ·rename_i n a3 hu;obtain⟨W,h2⟩:=Qz hu;exact Ran.of_steps (.one (step_exit W)) (ZnY A e u (fun x X=>d x (VD _ (h2 x X))) hk hr ex hf hn hd)
   simp at e
  |ret=>exact Ran.of_steps (.one step_ret) (Zku u e hk hr ex hf hd)
  |_=>simp[Xx]at e
theorem ZoD(d:CfgOk Bs C)(u:Zry Bs C F):Ww Bs C.P (Xx C F):=by
 intro f args h r h' e;simp only[Xx]at e;split at e
 ·rename_i v A;split at e
  ·simp only[Va,Vp]at e;obtain⟨rfl,rfl⟩:=e;exact d.prim f args _ A
  simp at e
 split at e
 ·rename_i x D;simp only[Va]at e;subst e;exact d.primH f args h _ _ D
 split at e
 ·rename_i E;exact ZlY d u E e
 simp at e
theorem Zag(d:CfgOk Bs C):∀n,Ww Bs C.P (Go.Ab.runN C n)∧Zry Bs C (Go.Ab.runN C n)
 |0=>⟨fun _ _ _ _ _ e=>by simp[Go.Ab.runN]at e,fun _ _ _ _ _ _ _ e=>by simp[Go.Ab.runN]at e⟩
 |n+1=>by obtain⟨u,h2⟩:=Zag d n;exact⟨ZoD d h2,Zsm d u h2⟩
theorem ZbU(d:CfgOk Bs C){h:Za}(e:Go.Ab.runN C n (.call f args h)=some (r,h')):Yr Bs C.P f args h r h':=((Zag d n).1 f args h r h' e).2
end
section
variable{Bs:World→Prop}
def lo{α:Type}(a b:Option α):Prop:=a=none∨a=b
theorem lo.map{a b:Option α}(g:Option α→Option β)(h0:g none=none)(h:lo a b):lo (g a) (g b):=by
 rcases h with h|h
 ·exact .inl (by rw[h,h0])
 exact .inr (by rw[h])
def leF(F F':Tk→Res):Prop:=∀t,lo (F t) (F' t)
end
section
variable{Bs:World→Prop}
variable{C:Cfg}{F F':Tk→Res}{h:Za}{ev:Operand→AV}
theorem Zuh{nl:FuncId→Bool×Nat}(d:leF F F')(args:List AV)(f:AV):lo (Zch nl F h args f) (Zch nl F' h args f):=by
 unfold Zch;split
 ·split
  ·exact(d _).map Zf3 rfl
  exact .inr rfl
 exact .inr rfl
theorem Zkr(d:leF F F')(g:Nat)(ls:List Nat)(args:List AV):lo (Z0 F g h ls args) (Z0 F' g h ls args):=by
 unfold Z0;split
 ·split
  ·split
   ·exact(d _).map (WZ h ls) rfl
   exact .inr rfl
  exact .inr rfl
 exact .inr rfl
theorem Zr3(d:leF F F')(g:Nat)(o:Option (List AV)):lo (W4 F g h o) (W4 F' g h o):=by
 unfold W4;split
 ·exact(d _).map (Wa h) rfl
 exact .inr rfl
theorem Zkb(d:leF F F')(e:Nat)(g:Nat)(args:List AV)(o:Option (List AV)):lo (Wi e F g h args o) (Wi e F' g h args o):=by
 unfold Wi;split
 ·exact(d _).map (Wt h) rfl
 split
 ·exact Zr3 d _ _
 ·exact d _
 split
 ·exact Zkr d _ _ _
 exact .inr rfl
theorem ZwC(d:leF F F')(nl:FuncId→Bool×Nat)(args:List AV)(f:AV):lo (ZU nl F h args f) (ZU nl F' h args f):=by
 unfold ZU;split
 ·exact Zkb d _ _ _ _
 ·exact Zkb d _ _ _ _
 exact .inr rfl
theorem ZoF(e:leF F F')(o:Op):lo (ZP C F ev h o) (ZP C F' ev h o):=by
 cases o with
 |call c =>
  simp only[ZP,J7];split
  ·exact Zuh e _ _
  ·exact .inr rfl
  exact .inr rfl
 |makeFunc f first d=>cases f<;>exact .inr rfl
 |slice t x lo hi u =>
  cases u
  ·exact .inr rfl
  cases lo<;>cases hi<;>exact .inr rfl
 |_=>exact .inr rfl
theorem Zoq(d:leF F F')(o:Op):lo (Z8 C F ev h o) (Z8 C F' ev h o):=by
 have e:lo (val h (ZP C F ev h o)) (val h (ZP C F' ev h o)):=(ZoF d o).map (val h) rfl;cases o with
 |call c =>
  simp only[Z8,ZbK];split
  ·exact ZwC d _ _ _
  ·exact .inr rfl
  ·exact .inr rfl
  ·exact .inr rfl
  ·exact .inr rfl
  ·exact .inr rfl
  exact .inr rfl
 |alloc t| box t x| store t a v| makeSlice t n m| convert t u y| buildSlice t n ps=>exact .inr rfl
 |makeMap t r=>cases r<;>exact .inr rfl
 |mapUpdate t m k v| insert t m k v=>exact .inr rfl
 |_=>simpa only[Z8]using e
theorem ZCQ(d:leF F F'):leF (lv F) (lv F'):=fun t=>by
 unfold lv;split
 ·exact(d _).map lvR rfl
 exact d _
theorem Zv5(d:leF F F')(o:Op):lo (QJ F n ev h o) (QJ F' n ev h o):=by
 unfold QJ;split
 ·split
  ·split
   ·exact Zkr d _ _ _
   exact .inr rfl
  exact .inr rfl
 exact .inr rfl
theorem ZuZ(d:leF F F')(dy:List (Nat×Nat))(pl:Nat→Nat)(i:Nat)(o:Op):lo (XP C F dy pl i ev h o) (XP C F' dy pl i ev h o):=by
 unfold XP;split
 ·exact(ZoF (ZCQ d) o).map (val h) rfl
 split
 ·exact .inr rfl
 split
 ·exact Zv5 d o
 exact Zoq d o
theorem Zhq(u:leF F F')(d:List Oper):∀(l:List Oper) (fr:Fr) (h:Za),lo (J2 C F d l fr h) (J2 C F' d l fr h)
 |[],_,_=>.inr rfl
 |o::l,fr,h=>by
  have step:lo (match Z8 C F (ev fr) h o.op with
    |some (v,h)=>J2 C F d l (put fr o.dst v) h
    |none=>none) (match Z8 C F' (ev fr) h o.op with
    |some (v,h)=>J2 C F' d l (put fr o.dst v) h
    |none=>none):=by
   rcases Zoq (C:=C) (ev:=ev fr) (h:=h) u o.op with e|e
   ·rw[e];exact .inl rfl
   rw[e];split
   ·exact Zhq u d l _ _
   exact .inr rfl
  simp only[J2];split
  ·exact step
  split
  ·split
   ·exact step
   exact Zhq u d l _ _
  ·exact Zhq u d l _ _
  exact .inr rfl
theorem ZeC(A:leF F F')(dy:List (Nat×Nat))(pl:Nat→Nat)(d:List Oper):∀(l:List Oper) (i:Nat) (fr:Fr) (h:Za),lo (X0 C F dy pl d i l fr h) (X0 C F' dy pl d i l fr h)
 |[],_,_,_=>.inr rfl
 |o::l,i,fr,h=>by
  have step:lo (match XP C F dy pl i (ev fr) h o.op with
    |some (v,h')=>match X0 C F dy pl d (i+1) l (put fr o.dst v) h' with
     |some (u,h'',l)=>some (u,h'',(i,chg h h' (Ys (pl 0) dy i (ev fr) h o.op))::l)
     |none=>none
    |none=>none) (match XP C F' dy pl i (ev fr) h o.op with
    |some (v,h')=>match X0 C F' dy pl d (i+1) l (put fr o.dst v) h' with
     |some (u,h'',l)=>some (u,h'',(i,chg h h' (Ys (pl 0) dy i (ev fr) h o.op))::l)
     |none=>none
    |none=>none):=by
   rcases ZuZ (C:=C) (ev:=ev fr) (h:=h) A dy pl i o.op with e|e
   ·rw[e];exact .inl rfl
   rw[e];split
   ·rename_i v h' _;rcases ZeC A dy pl d l (i+1) (put fr o.dst v) h' with D|D
    ·rw[D];exact .inl rfl
    rw[D];exact .inr rfl
   exact .inr rfl
  simp only[X0];split
  ·exact step
  split
  ·split
   ·exact step
   exact ZeC A dy pl d l _ _ _
  ·exact ZeC A dy pl d l _ _ _
  exact .inr rfl
theorem Zng(d:leF F F')(f k:Nat)(ks:List It)(n:Nat)(fr:Fr)(h:Za)(o:Option (List Nat)):lo (ZaW F f k ks n fr h o) (ZaW F' f k ks n fr h o):=by
 cases o with
 |none=>exact d _
 |some l =>
  simp only[ZaW];split
  ·exact d _
  exact d _
theorem ZwB(d:leF F F')(t:Tk):lo (Xx C F t) (Xx C F' t):=by
 match t with
 |.call f args h =>
  simp only[Xx];split
  ·exact .inr rfl
  split
  ·exact .inr rfl
  split
  ·unfold enter;split
   ·split
    ·exact d _
    exact .inr rfl
   exact .inr rfl
  exact .inr rfl
 |.run f k [] fr h=>exact .inr rfl
 |.run f k (.blk _ _::ks) fr h=>exact Zng d _ _ _ _ _ _ _
 |.run f k (.pst l c::ks) fr h| .run f k (.lp c none n::ks) fr h=>exact d _
 |.run f k (.lp c (some live) n::ks) fr h =>
  simp only[Xx,ZbN];unfold ZfS;split
  ·split
   ·exact d _
   exact d _
  exact .inr rfl
 |.run f k (.code c::ks) fr h =>
  cases c with
  |skip| seq a b=>exact d _
  |region id ops u =>
   simp only[Xx];have:lo (ZbV C F f id ops.toList u fr h) (ZbV C F' f id ops.toList u fr h):=by
    cases u with
    |false=>exact Zhq d _ _ _ _
    |true=>exact(ZeC d _ _ _ _ _ _ _).map (ZgP _) rfl
   rcases this with e|e
   ·rw[e];exact .inl rfl
   rw[e];unfold ZdL;split
   ·exact d _
   exact .inr rfl
  |cond x a b =>
   simp only[Xx,ZcD];split
   ·split
    ·exact d _
    exact d _
   exact .inr rfl
  |block id c =>
   simp only[Xx,Zdl];split
   ·split
    ·unfold Zeh;split
     ·exact d _
     exact .inr rfl
    exact d _
   exact d _
  |loop c=>exact d _
  |exit id =>
   simp only[Xx,Zkg];split
   ·exact Zng d _ _ _ _ _ _ _
   exact .inr rfl
  |ret| _=>exact .inr rfl
theorem lo.trans{a b c:Option α}(h:lo a b)(h':lo b c):lo a c:=by
 rcases h with h|h
 ·exact .inl h
 rw[h];exact h'
theorem Zkl:∀(n:Nat) (t:Tk),lo (Go.Ab.runN C n t) (Go.Ab.runN C (n+1) t)
 |0,_=>.inl rfl
 |n+1,t=>ZwB (C:=C) (F:=Go.Ab.runN C n) (F':=Go.Ab.runN C (n+1)) (Zkl n) t
theorem Zos(n:Nat)(t:Tk):∀k,lo (Go.Ab.runN C n t) (Go.Ab.runN C (n+k) t)
 |0=>.inr rfl
 |k+1=>(Zos n t k).trans (Zkl (n+k) t)
theorem Zhf(d:n≤m){t:Tk}{r:AV×Za}(e:Go.Ab.runN C n t=some r):Go.Ab.runN C m t=some r:=by
 have:=Zos (C:=C) n t (m-n);rw[show n+(m-n)=m by omega]at this;rcases this with h|h
 ·rw[h]at e;simp at e
 rw[←h];exact e
open Classical in
noncomputable def R(C:Cfg)(t:Tk):Res:=if h:∃n r,Go.Ab.runN C n t=some r then some h.choose_spec.choose else none
theorem Zgo{t:Tk}{r:AV×Za}(e:Go.Ab.runN C n t=some r):R C t=some r:=by have h:∃n r,Go.Ab.runN C n t=some r:=⟨n,r,e⟩;unfold R;rw[dif_pos h];have d:=Zhf (Nat.le_max_left n h.choose) e;have h2:=Zhf (Nat.le_max_right n h.choose) h.choose_spec.choose_spec;rw[d]at h2;exact h2.symm
theorem Zgi{t:Tk}{r:AV×Za}(e:R C t=some r):∃n,Go.Ab.runN C n t=some r:=by
 unfold R at e;split at e
 ·rename_i h;simp only[Va]at e;exact⟨_,e▸h.choose_spec.choose_spec⟩
 simp at e
theorem Zx4{t:Tk}(e:R C t=none)(n:Nat):Go.Ab.runN C n t=none:=by
 cases h:Go.Ab.runN C n t with
 |none=>rfl
 |some r=>rw[Zgo h]at e;simp at e
def Ev{α:Type}(C:Cfg)(G:(Tk→Res)→α):Prop:=∃n,∀m,n≤m→G (Go.Ab.runN C m)=G (R C)
theorem Ev.ask(t:Tk):Ev C fun F=>F t:=by
 cases e:R C t with
 |none=>exact⟨0,fun m _=>by show Go.Ab.runN C m t=R C t;rw[e,Zx4 e m]⟩
 |some r =>
  obtain⟨n,h⟩:=Zgi e;exact⟨n,fun m d=>by show Go.Ab.runN C m t=R C t;rw[e,Zhf d h]⟩
theorem Ev.no(x:α):Ev C fun _=>x:=⟨0,fun _ _=>rfl⟩
theorem Ev.map{G:(Tk→Res)→α}(h:Ev C G)(f:α→β):Ev C fun F=>f (G F):=by obtain⟨n,h⟩:=h;exact⟨n,fun m d=>congrArg f (h m d)⟩
theorem Ev.bind{G:(Tk→Res)→α}(h:Ev C G)(H:α→(Tk→Res)→β)(h':∀a,Ev C (H a)):Ev C fun F=>H (G F) F:=by obtain⟨n,h⟩:=h;obtain⟨k,h'⟩:=h' (G (R C));exact⟨n+k,fun m d=>by show H (G _) _=H (G _) _;rw[h m (by omega),h' m (by omega)]⟩
theorem Zs8{nl:FuncId→Bool×Nat}(args:List AV)(f:AV):Ev C fun F=>Zch nl F h args f:=by
 unfold Zch;split
 ·split
  ·exact(Ev.ask _).map Zf3
  exact Ev.no _
 exact Ev.no _
theorem ZkD(g:Nat)(ls:List Nat)(args:List AV):Ev C fun F=>Z0 F g h ls args:=by
 unfold Z0;split
 ·split
  ·split
   ·exact(Ev.ask _).map (WZ h ls)
   exact Ev.no _
  exact Ev.no _
 exact Ev.no _
end
end Go.Ab
