/- What is proved: contracts of the program's and the reference's functions in the evaluator, and plain laws on them. Conditions: as each states. -/
import Derived.Test.YtddclolilenlkaaGreatDoorMX3
set_option linter.unusedSimpArgs false
set_option linter.unusedSectionVars false
set_option linter.unusedVariables false
set_option maxRecDepth 100000
namespace Go.Ab
open Go Go.Proofs
variable{f i id n:Nat}{args:List AV}{h h':Za}{r v:AV}{dy:List (Nat×Nat)}{ops:Array Oper}{a b c:Code}{ks:List It}{fr:Fr}{g:FuncId}{T:List Nat}{pl:Nat→Nat}{w:World}
section
variable{Bs:World→Prop}
variable{C:Cfg}{F F':Tk→Res}{h:Za}{ev:Operand→AV}
theorem ZsW(g:Nat)(o:Option (List AV)):Ev C fun F=>W4 F g h o:=by
 unfold W4;split
 ·exact(Ev.ask _).map (Wa h)
 exact Ev.no _
theorem ZkN(e:Nat)(g:Nat)(args:List AV)(o:Option (List AV)):Ev C fun F=>Wi e F g h args o:=by
 unfold Wi;split
 ·exact(Ev.ask _).map (Wt h)
 split
 ·exact ZsW _ _
 ·exact Ev.ask _
 split
 ·exact ZkD _ _ _
 exact Ev.no _
theorem Zvf(nl:FuncId→Bool×Nat)(args:List AV)(f:AV):Ev C fun F=>ZU nl F h args f:=by
 unfold ZU;split
 ·exact ZkN _ _ _ _
 ·exact ZkN _ _ _ _
 exact Ev.no _
theorem Zoo{D:Cfg}(o:Op):Ev C fun F=>ZP D F ev h o:=by
 cases o with
 |call c =>
  simp only[ZP,J7];split
  ·exact Zs8 _ _
  ·exact Ev.no _
  exact Ev.no _
 |makeFunc f first e=>cases f<;>exact Ev.no _
 |slice t x lo hi j =>
  cases j
  ·exact Ev.no _
  cases lo<;>cases hi<;>exact Ev.no _
 |_=>exact Ev.no _
theorem ZoA{D:Cfg}(o:Op):Ev C fun F=>Z8 D F ev h o:=by
 have e:Ev C fun F=>val h (ZP D F ev h o):=(Zoo o).map (val h);cases o with
 |call c =>
  simp only[Z8,ZbK];split
  ·exact Zvf _ _ _
  ·exact Ev.no _
  ·exact Ev.no _
  ·exact Ev.no _
  ·exact Ev.no _
  ·exact Ev.no _
  exact Ev.no _
 |alloc t| box t x| store t a v| makeSlice t n m| convert t u y=>exact Ev.no _
 |buildSlice t n ps =>
  simp only[Z8];exact(Zoo _).map fun x=>ZaX h (Zbc (D.wrB t) h ev n ps.toList (es D.P t)) (Zdt (D.wrB t) x)
 |makeMap t r=>cases r<;>exact Ev.no _
 |mapUpdate t m k v| insert t m k v=>exact Ev.no _
 |_=>simpa only[Z8]using e
theorem ZCU(t:Tk):Ev C fun F=>lv F t:=by
 unfold lv;split
 ·exact(Ev.ask _).map lvR
 exact Ev.ask _
theorem ZsS{nl:FuncId→Bool×Nat}(args:List AV)(f:AV):Ev C fun F=>Zch nl (lv F) h args f:=by
 unfold Zch;split
 ·split
  ·exact(ZCU _).map Zf3
  exact Ev.no _
 exact Ev.no _
theorem ZsO(o:Op):Ev C fun F=>ZP C (lv F) ev h o:=by
 cases o with
 |call c =>
  simp only[ZP,J7];split
  ·exact ZsS _ _
  ·exact Ev.no _
  exact Ev.no _
 |makeFunc f first e=>cases f<;>exact Ev.no _
 |slice t x lo hi j =>
  cases j
  ·exact Ev.no _
  cases lo<;>cases hi<;>exact Ev.no _
 |_=>exact Ev.no _
theorem ZuA(o:Op):Ev C fun F=>QJ F n ev h o:=by
 unfold QJ;split
 ·split
  ·split
   ·exact ZkD _ _ _
   exact Ev.no _
  exact Ev.no _
 exact Ev.no _
theorem ZuK(dy:List (Nat×Nat))(pl:Nat→Nat)(i:Nat)(o:Op):Ev C fun F=>XP C F dy pl i ev h o:=by
 unfold XP;split
 ·exact(ZsO o).map (val h)
 split
 ·exact Ev.no _
 split
 ·exact ZuA o
 exact ZoA o
theorem Zhm(all:List Oper):∀(l:List Oper) (fr:Fr) (h:Za),Ev C fun F=>J2 C F all l fr h
 |[],_,_=>Ev.no _
 |o::l,fr,h=>by
  have step:Ev C fun F=>(match Z8 C F (Go.Ab.ev fr) h o.op with
    |some (v,h)=>J2 C F all l (put fr o.dst v) h
    |none=>none):=by
   refine Ev.bind (ZoA (ev:=Go.Ab.ev fr) (h:=h) o.op) (fun(x:Option (AV×Za)) (F:Tk→Res)=>(match x with
    |some (v,h)=>J2 C F all l (put fr o.dst v) h
    |none=>none:Option (Fr×Za))) ?_
   rintro(_|⟨v,h'⟩)
   ·exact Ev.no _
   exact Zhm all l _ _
  simp only[J2];split
  ·exact step
  split
  ·split
   ·exact step
   exact Zhm all l _ _
  ·exact Zhm all l _ _
  exact Ev.no _
theorem Zer(dy:List (Nat×Nat))(pl:Nat→Nat)(all:List Oper):∀(l:List Oper) (i:Nat) (fr:Fr) (h:Za),Ev C fun F=>X0 C F dy pl all i l fr h
 |[],_,_,_=>Ev.no _
 |o::l,i,fr,h=>by
  have step:Ev C fun F=>(match XP C F dy pl i (Go.Ab.ev fr) h o.op with
    |some (v,h')=>match X0 C F dy pl all (i+1) l (put fr o.dst v) h' with
     |some (e,j,l)=>some (e,j,(i,chg h h' (Ys (pl 0) dy i (Go.Ab.ev fr) h o.op))::l)
     |none=>none
    |none=>none):=by
   refine Ev.bind (ZuK (ev:=Go.Ab.ev fr) (h:=h) dy pl i o.op) (fun(x:Option (AV×Za)) (F:Tk→Res)=>(match x with
    |some (v,h')=>match X0 C F dy pl all (i+1) l (put fr o.dst v) h' with
     |some (e,j,l)=>some (e,j,(i,chg h h' (Ys (pl 0) dy i (Go.Ab.ev fr) h o.op))::l)
     |none=>none
    |none=>none:Option (Fr×Za×List (Nat×List Nat)))) ?_
   rintro(_|⟨v,h'⟩)
   ·exact Ev.no _
   exact(Zer dy pl all l (i+1) (put fr o.dst v) h').map fun x=>match x with
    |some (e,j,l)=>some (e,j,(i,chg h h' (Ys (pl 0) dy i (Go.Ab.ev fr) h o.op))::l)
    |none=>none
  simp only[X0];split
  ·exact step
  split
  ·split
   ·exact step
   exact Zer dy pl all l _ _ _
  ·exact Zer dy pl all l _ _ _
  exact Ev.no _
theorem Zmw(f k:Nat)(ks:List It)(n:Nat)(fr:Fr)(h:Za)(o:Option (List Nat)):Ev C fun F=>ZaW F f k ks n fr h o:=by
 cases o with
 |none=>exact Ev.ask _
 |some l =>
  simp only[ZaW];split
  ·exact Ev.ask _
  exact Ev.ask _
theorem ZuW(t:Tk):Ev C fun F=>Xx C F t:=by
 match t with
 |.call f args h =>
  simp only[Xx];split
  ·exact Ev.no _
  split
  ·exact Ev.no _
  split
  ·unfold enter;split
   ·split
    ·exact Ev.ask _
    exact Ev.no _
   exact Ev.no _
  exact Ev.no _
 |.run f k [] fr h=>exact Ev.no _
 |.run f k (.blk _ _::ks) fr h=>exact Zmw _ _ _ _ _ _ _
 |.run f k (.pst l c::ks) fr h| .run f k (.lp c none n::ks) fr h=>exact Ev.ask _
 |.run f k (.lp c (some live) n::ks) fr h =>
  simp only[Xx,ZbN];unfold ZfS;split
  ·split
   ·exact Ev.ask _
   exact Ev.ask _
  exact Ev.no _
 |.run f k (.code c::ks) fr h =>
  cases c with
  |skip| seq a b=>exact Ev.ask _
  |region id ops e =>
   simp only[Xx];have:Ev C fun F=>ZbV C F f id ops.toList e fr h:=by
    cases e with
    |false=>exact Zhm _ _ _ _
    |true=>exact(Zer _ _ _ _ _ _ _).map (ZgP _)
   refine Ev.bind this (fun x F=>ZdL F f k (ZcE id ks (C.post f)) x) ?_;rintro(_|⟨fr',h'⟩)
   ·exact Ev.no _
   exact Ev.ask _
  |cond x a b =>
   simp only[Xx,ZcD];split
   ·split
    ·exact Ev.ask _
    exact Ev.ask _
   exact Ev.no _
  |block id c =>
   simp only[Xx,Zdl];split
   ·split
    ·unfold Zeh;split
     ·exact Ev.ask _
     exact Ev.no _
    exact Ev.ask _
   exact Ev.ask _
  |loop c=>exact Ev.ask _
  |exit id =>
   simp only[Xx,Zkg];split
   ·exact Zmw _ _ _ _ _ _ _
   exact Ev.no _
  |ret=>exact Ev.no _
  |_=>exact Ev.no _
theorem Zen(t:Tk):R C t=Xx C (R C) t:=by
 obtain⟨n,h⟩:=ZuW (C:=C) t;cases e:Xx C (R C) t with
 |some r=>exact Zgo (n:=n+1) ((h n (Vw _)).trans e)
 |none =>
  cases j:R C t with
  |none=>rfl
  |some r =>
   obtain⟨m,l⟩:=Zgi j;have o:=Zhf (show m≤n+m+1 by omega) l;have h2:Go.Ab.runN C (n+m+1) t=none:=(h (n+m) (by omega)).trans e;rw[o]at h2;simp at h2
theorem Zrb(j:CfgOk Bs C){h:Za}(e:R C (.call f args h)=some (r,h')):Go.Proofs.Enters C.P f∧Yr Bs C.P f args h r h':=by obtain⟨n,e⟩:=Zgi e;exact(Zag j n).1 f args h r h' e
end
def ZAU(acc:List (List Nat)):List Edge→List Nat
 |[]=>[]
 |e::r=>if Region.binds .any e=true then e.on::(acc.getD e.on []++ZAU acc r)else ZAU acc r
def ZyI:List Nat→List Nat
 |[]=>[]
 |x::r=>if(ZyI r).contains x=true then ZyI r else x::ZyI r
def ZvB(acc:List (List Nat)):List Oper→List (List Nat)
 |[]=>acc
 |o::r=>ZvB (acc++[ZyI (ZAU acc o.after.toList)]) r
def ZqT(i j:Nat)(oi oj:Oper):Bool :=
 match oi.dst,oj.dst with
 |some d,some d'=>!(d==d')||i==j
 |_,_=>true
def ZzJ(s:Nat)(o:Oper):Bool :=
 match o.dst with
 |some d=>d==s
 |none=>false
def ZnD(dy:List (Nat×Nat))(ops:Array Oper)(B:List (List Nat))(j:Nat)(oj:Oper)(i:Nat)(oi:Oper):Bool :=
 (!(decide (i<j))||(bit B j i||(Oper.apart ops oi oj&&ZfX dy i j oi oj)))&&(ZqT i j oi oj&&(XY oj.op).all fun s=>!(ZzJ s oi)||bit B j i)
def Zoi(dy:List (Nat×Nat))(ops:Array Oper)(B:List (List Nat))(j:Nat)(oj:Oper):Bool :=
 ((B.getD j []).all fun i=>oj.after.toList.any fun e=>Region.binds .any e&&(e.on==i||bit B e.on i)) &&
 ((oj.after.toList.all fun e=>!(Region.binds .any e)||decide (e.on<j)) &&
 (List.range ops.size).all fun i=>match ops[i]? with
  |none=>true
  |some oi=>ZnD dy ops B j oj i oi)
def ZCt(dy:List (Nat×Nat))(ops:Array Oper)(B:List (List Nat)):Bool :=
 (List.range ops.size).all fun j=>match ops[j]? with
  |none=>true
  |some oj=>Zoi dy ops B j oj
def ZC2(n:Nat)(ops:List Oper):Bool:=ops.all fun o=>match o.dst with
 |some d=>decide (d<n)
 |none=>true
def ZcQ(dy:Nat→List (Nat×Nat))(n:Nat):Code→Bool
 |.region id ops draw=>ZC2 n ops.toList&&(!draw||ZCt (dy id) ops (ZvB [] ops.toList))
 |.seq a b| .cond _ a b=>ZcQ dy n a&&ZcQ dy n b
 |.block _ c| .loop c=>ZcQ dy n c
 |_=>true
def ZaG(P:Program)(dyn:Nat→Nat→List (Nat×Nat))(f:Nat):Bool :=
 match P.funcs[f]? with
 |some fn=>match fn.body with
  |some c=>(fn.name == "runtime.NumGoroutine")==false&&ZcQ (dyn f) fn.ntmps c
  |none=>false
 |none=>false
theorem Zyn{B:List (List Nat)}(h:ZCt dy ops B=true):Ordered dy ops B:=by
 have one:∀(j:Nat) (oj:Oper),ops[j]?=some oj→Zoi dy ops B j oj=true:=fun j oj l=>by have:=Um.1 h j (S5.2 (Uv.1 l).1);simpa only[l]using this
 have two:∀(i j:Nat) (oi oj:Oper),ops[i]?=some oi→ops[j]?=some oj→ZnD dy ops B j oj i oi=true:=fun i j oi oj hi l=>by have:=one j oj l;simp only[Zoi,VA]at this;have:=Um.1 this.2.2 i (S5.2 (Uv.1 hi).1);simpa only[hi]using this
 refine⟨?_,?_,?_,?_,?_⟩
 ·intro j o l i q;have:=one j o l;simp only[Zoi,VA]at this;have m:=Um.1 this.1 i (by simpa[bit]using q);obtain⟨e,u,h2⟩:=PP.1 m;simp only[VA,U0,Up]at h2;exact⟨e,by simpa using u,h2.1,h2.2⟩
 ·intro i j oi oj y hi l;have:=two i j oi oj hi l;simp only[ZnD,VA,U0,Sq,Sr]at this;rcases this.1 with m|m
  ·exact absurd y m
  exact m
 ·intro i j oi oj d hi l A D;have:=two i j oi oj hi l;simp only[ZnD,VA]at this;have m:=this.2.1;simp only[ZqT,A,D,U0,Sq,Sw,Bool.true_eq_false,false_or,Up]at m;exact m
 ·intro j o l s hs k ok E A;have:=two k j ok o E l;simp only[ZnD,VA]at this;have m:=Um.1 this.2.2 s hs;simpa[ZzJ,A]using m
 intro j o l e u q;have:=one j o l;simp only[Zoi,VA]at this;have m:=Um.1 this.2.1 e (by simpa using u);simpa[q]using m
theorem ZyJ(h:ZC2 n ops.toList=true):OpsFit n ops:=fun i o e d j=>by have:=Um.1 h o (by simpa using Array.mem_of_getElem? e);simpa[j]using this
theorem ZaH{C:Cfg}{f n:Nat}:∀c:Code,ZcQ (C.dyn f) n c=true→JH C f n c
 |.region id ops e,h=>by simp only[ZcQ,VA,U0,Sq]at h;refine⟨ZyJ h.1,fun j=>?_⟩;subst j;exact⟨_,Zyn (h.2.resolve_left (by simp))⟩
 |.seq a b,h=>by simp only[ZcQ,VA]at h;exact⟨ZaH a h.1,ZaH b h.2⟩
 |.cond _ a b,h=>by simp only[ZcQ,VA]at h;exact⟨ZaH a h.1,ZaH b h.2⟩
 |.block _ c,h| .loop c,h=>ZaH c h
 |.skip,_| .rangeFunc _ _ _ _,_| .exit _,_| .scope _,_| .label _,_| .goto _,_| .ret,_| .refuse _,_=>trivial
theorem ZhV{C:Cfg}(h:ZaG C.P C.dyn f=true):Zzy C f:=by
 unfold ZaG at h;split at h
 ·rename_i fn e;split at h
  ·rename_i c j;simp only[VA,Up]at h;exact⟨fn,c,e,j,h.1,ZaH c h.2⟩
  simp at h
 simp at h
section
variable{C:Cfg}{F:Tk→Res}
theorem Zd{f:Nat}{h:Za}{fn:Func}(j:C.prim f args=none)(e:C.primH f args h=none)(l:C.good f=true)(m:C.ownA f=[])(o:C.P.funcs[f]?=some fn)(q:fn.body=some c):
  R C (.call f args h)=R C (.run f h.length [.code c] (QS 0 args) h):=by
 rw[Zen];simp only[Xx,j,e,l,m,V7,o,enter,q,Qy]
theorem ZeF{h:Za}(j:C.prim f args=none)(e:C.primH f args h=some (v,h')):R C (.call f args h)=some (v,h'):=by rw[Zen];simp only[Xx,j,e]
theorem Qn(e:C.prim f args=some v):R C (.call f args [])=some (v,[]):=by rw[Zen];simp only[Xx,e]
theorem ZBM{f k:Nat}:R C (.run f k (.code .skip::ks) fr h)=R C (.run f k ks fr h):=by rw[Zen];rfl
theorem ZCf{f k:Nat}:R C (.run f k (.code (.seq a b)::ks) fr h)=R C (.run f k (.code a::.code b::ks) fr h):=by rw[Zen];rfl
theorem ZuH{f k:Nat}{ops:List Oper}:R C (.run f k (.code (.region id ops.toArray false)::ks) fr h)=ZdL (R C) f k (ZcE id ks (C.post f)) (J2 C (R C) ops ops fr h):=by rw[Zen];rfl
theorem ZBI{f k:Nat}{ops:List Oper}:R C (.run f k (.code (.region id ops.toArray true)::ks) fr h)=ZdL (R C) f k (ZcE id ks (C.post f)) (ZgP (C.dyn f id) (X0 C (R C) (C.dyn f id) (Zle h.length ops) ops 0 ops fr (h++List.replicate (J3 ops) .hole))):=by rw[Zen];rfl
noncomputable def ZmM(C:Cfg)(f k:Nat)(ks:List It)(c:List Pop)(fr:Fr)(h:Za):Res:=R C (.run f k ks (Za4 k c fr h).1 (Za4 k c fr h).2)
theorem ZDg{f k:Nat}{l:List Nat}{c:List Pop}:R C (.run f k (.pst l c::ks) fr h)=ZmM C f k ks c (restr fr l) h:=by rw[Zen];rfl
theorem Zwh{f k:Nat}:ZmM C f k ks [] fr h=R C (.run f k ks fr h):=rfl
theorem Zrx{f k d:Nat}{r:List Pop}:ZmM C f k ks (.cell i d::r) fr h=ZmM C f k ks r fr (Zpx k fr i d h):=rfl
theorem Ztr{f k c:Nat}{r:List Pop}:ZmM C f k ks (.opt i c::r) fr h=ZmM C f k ks r fr (Zp5 k fr h i c):=rfl
theorem Zr8{f k:Nat}{l:List Nat}{r:List Pop}:ZmM C f k ks (.keep l::r) fr h=ZmM C f k ks r (restr fr l) h:=rfl
theorem ZBG{f k:Nat}{x:Operand}:R C (.run f k (.code (.cond x a b)::ks) fr h)=ZcD (R C) f k ks a b fr h (ev fr x):=by rw[Zen];rfl
theorem ZqZ{f k:Nat}:R C (.run f k (.code (.block id c)::ks) fr h)=Zdl C (R C) f k ks id fr h c (C.live f id):=by rw[Zen];rfl
theorem ZAX{f k:Nat}:R C (.run f k (.code (.exit id)::ks) fr h)=Zkg (R C) f k fr h (C.out f id) (unwind id ks):=by rw[Zen];rfl
theorem ZCZ{f k:Nat}:R C (.run f k (.code .ret::ks) fr h)=Zfq C f k fr h:=by rw[Zen];rfl
theorem ZCo{f k:Nat}:R C (.run f k [] fr h)=Zfq C f k fr h:=by rw[Zen];rfl
theorem ZCI{f k:Nat}:R C (.run f k (.blk id n::ks) fr h)=ZaW (R C) f k ks n fr h (C.out f id):=by rw[Zen];rfl
theorem ZoT{f k:Nat}:ZaW F f k ks n fr h none=F (.run f k ks fr h):=rfl
theorem ZDY{f k:Nat}{live:List Nat×List Nat}:R C (.run f k (.lp c (some live) n::ks) fr h)=ZbN (R C) f k ks c live n fr h:=by rw[Zen];rfl
theorem Zpp{f k:Nat}{o:Option (List Nat)}:Zkg F f k fr h o (some (n,ks))=ZaW F f k ks n fr h o:=rfl
theorem ZmZ{f k:Nat}:ZcD F f k ks a b fr h (.bool true)=F (.run f k (.code a::ks) fr h):=rfl
theorem Zk3{f k:Nat}:ZcD F f k ks a b fr h (.bool false)=F (.run f k (.code b::ks) fr h):=rfl
theorem ZAr(i:Nat)(v:AV)(fr:Fr):get ((i,v)::fr) i=v:=by simp[get]
theorem ZAQ(i j:Nat)(v:AV)(fr:Fr)(h:(j==i)=false):get ((j,v)::fr) i=get fr i:=by simp[get,by simpa using h]
theorem Zxi(fr:Fr)(d:Nat)(v:AV):put fr (some d) v=(d,v)::fr:=rfl
theorem Zwz(fr:Fr)(v:AV):put fr none v=fr:=rfl
theorem ZBc(fr:Fr)(t:Nat):ev fr (.tmp t)=get fr t:=rfl
theorem ZuL(fr:Fr)(v:Value):ev fr (.const v)=JW v:=rfl
theorem ZyO(fr:Fr)(f:Nat):ev fr (.func f)=.fn f []:=rfl
end
section
variable{Bs:World→Prop}
theorem ZfT{μ:Mp Bs}{w w':World}(h:RowKit.Below w.heap.size w w'):Ext μ [] w μ [] w' where
 out:=rfl
 still:=rfl
 os:=h.os
 tape:=h.tape
 output:=h.output
 size:=h.size
 len:=Vw _
 maps:=fun l es e=>by simp at e
 keep:=fun b o v m q=>by refine⟨?_,q⟩;have:=h.block b (ZeY m);simp only[World.cell?]at m ⊢;rw[this];exact m
 outside:=fun b j s=>⟨h.block b j,s⟩
 cells:=fun l cs e=>by simp at e
 rows:=fun l z rs wr e=>by simp at e
 sizes:=fun b vs T j=>⟨vs,j.eq (h.block b j.lt),rfl⟩
theorem Qi{P:Program}{vs0:List Value}{v:Value}(m:∀(M:Nat→Nat→Prop) (w:World) (vs:List Value),PRepL M w args vs→vs=vs0)(o:∀(M:Nat→Nat→Prop) (w:World),PRep M w r v)
  (q:∀w,Bs w→Calls P g vs0.toArray w fun e w'=>e=.returned v∧RowKit.Below w.heap.size w w'):Yr Bs P g args [] r []:=by
 intro μ w vs hrel hargs;have:=m _ w vs (RepL.no_own _ _ hargs);subst this;refine(q w (hrel.base w fun _ _=>rfl)).mono ?_;rintro e w' ⟨rfl,s⟩;have j:=ZfT (μ:=μ) s;exact⟨v,μ,rfl,hrel.ext_same j (fun l b u=>by simp at u),j,Rep.pure _ _ (o _ _)⟩
theorem Zlf{P:Program}{vs0:List Value}(q:∀(M:Nat→Nat→Prop) (w:World) (vs:List Value),PRepL M w args vs→vs=vs0)
  (s:∀w,Bs w→Calls P g vs0.toArray w fun e w'=>∃v,e=.returned v∧RowKit.Below w.heap.size w w'∧∀M:Nat→Nat→Prop,(∀b o,M b o→b<w.heap.size)→PRep M w' r v):Yr Bs P g args [] r []:=by
 intro μ w vs hrel hargs;have:=q _ w vs (RepL.no_own _ _ hargs);subst this;refine(s w (hrel.base w fun _ _=>rfl)).mono ?_;rintro e w' ⟨v,rfl,u,y⟩;have m:=ZfT (μ:=μ) u;refine⟨v,μ,rfl,hrel.ext_same m (fun l b j=>by simp at j),m,Rep.pure _ _ (y _ fun b o A=>?_)⟩;rcases A with B|⟨l,k,j,_⟩
 ·exact hrel.old b o B
 simp at j
theorem Wh(w:World):RowKit.Below w.heap.size w w:=RowKit.Below.refl _ _
theorem Znb(w:World)(n:Nat):RowKit.Below w.heap.size w (w.drewN n):=⟨rfl,rfl,rfl,Vw _,fun _ _=>rfl⟩
end
def goS(C:Cfg)(F:Tk→Res)(md:Option (List (Nat×Nat)×(Nat→Nat)))(i:Nat)(fr:Fr)(h:Za)(o:Op):Option (AV×Za) :=
 match md with
 |none=>Z8 C F (ev fr) h o
 |some (dy,pl)=>XP C F dy pl i (ev fr) h o
def goT(md:Option (List (Nat×Nat)×(Nat→Nat)))(i:Nat)(fr:Fr)(h:Za)(o:Op):List Nat :=
 match md with
 |none| some ([],_)=>[]
 |some (dy,pl)=>Ys (pl 0) dy i (ev fr) h o
def goA(md:Option (List (Nat×Nat)×(Nat→Nat)))(i:Nat)(h h':Za)(T:List Nat)(acc:List (Nat×List Nat)):List (Nat×List Nat) :=
 match md with
 |none| some ([],_)=>[]
 |some (_::_,_)=>(i,chg h h' T)::acc
def goE(F:Tk→Res)(md:Option (List (Nat×Nat)×(Nat→Nat)))(f k:Nat)(ks:List It)(fr:Fr)(h:Za)(acc:List (Nat×List Nat)):Res :=
 match md with
 |none=>F (.run f k ks fr h)
 |some (dy,_)=>if YN dy fr acc=true then F (.run f k ks fr h)else none
def go(C:Cfg)(F:Tk→Res)(md:Option (List (Nat×Nat)×(Nat→Nat)))(all:List Oper)(f k:Nat)(ks:List It):Nat→List Oper→Fr→Za→List (Nat×List Nat)→Res
 |_,[],fr,h,acc=>goE F md f k ks fr h acc
 |i,o::rest,fr,h,acc=>match o.guard with
  |none=>(match goS C F md i fr h o.op with
   |some (v,h')=>go C F md all f k ks (i+1) rest (put fr o.dst v) h' (goA md i h h' (goT md i fr h o.op) acc)
   |none=>none)
  |some (j,want)=>match ZdW fr (Wu all j)with
   |.bool b=>if b=want then(match goS C F md i fr h o.op with
     |some (v,h')=>go C F md all f k ks (i+1) rest (put fr o.dst v) h' (goA md i h h' (goT md i fr h o.op) acc)
     |none=>none)else go C F md all f k ks (i+1) rest (put fr o.dst (.tup [])) h acc
   |.tup []=>go C F md all f k ks (i+1) rest (put fr o.dst (.tup [])) h acc
   |_=>none
def goN(C:Cfg)(F:Tk→Res)(md:Option (List (Nat×Nat)×(Nat→Nat)))(all:List Oper)(f k:Nat)(ks:List It)(i:Nat)(rest:List Oper)(fr:Fr)(h:Za)(T:List Nat)(acc:List (Nat×List Nat))(d:Option Nat):Option (AV×Za)→Res
 |some (v,h')=>go C F md all f k ks (i+1) rest (put fr d v) h' (goA md i h h' T acc)
 |none=>none
def goG(C:Cfg)(F:Tk→Res)(md:Option (List (Nat×Nat)×(Nat→Nat)))(all:List Oper)(f k:Nat)(ks:List It)(i:Nat)(rest:List Oper)(fr:Fr)(h:Za)(acc:List (Nat×List Nat))(d:Option Nat)(op:Op)(want:Bool):AV→Res
 |.bool b=>if b=want then goN C F md all f k ks i rest fr h (goT md i fr h op) acc d (goS C F md i fr h op)else go C F md all f k ks (i+1) rest (put fr d (.tup [])) h acc
 |.tup []=>go C F md all f k ks (i+1) rest (put fr d (.tup [])) h acc
 |_=>none
section
variable{C:Cfg}{F:Tk→Res}
theorem Zfc{all:List Oper}{f k:Nat}{ks:List It}:∀(l:List Oper) (i:Nat) (fr:Fr) (h:Za) (acc:List (Nat×List Nat)),go C F none all f k ks i l fr h acc=ZdL F f k ks (J2 C F all l fr h)
 |[],_,_,_,_=>rfl
 |o::l,i,fr,h,acc=>by
  have step:(match goS C F none i fr h o.op with
   |some (v,h')=>go C F none all f k ks (i+1) l (put fr o.dst v) h' (goA none i h h' (goT none i fr h o.op) acc)
   |none=>none)=ZdL F f k ks (match Z8 C F (ev fr) h o.op with
    |some (v,h)=>J2 C F all l (put fr o.dst v) h
    |none=>none):=by
   simp only[goS];cases Z8 C F (ev fr) h o.op with
   |none=>rfl
   |some p=>exact Zfc l _ _ _ _
  cases m:o.guard with
  |none=>simp only[go,J2,m];exact step
  |some s =>
   obtain⟨j,e⟩:=s;simp only[go,J2,m];cases u:ZdW fr (Wu all j)with
   |bool b =>
    simp only;by_cases q:b=e
    ·simp only[q,V7];exact step
    simp only[q,UA];exact Zfc l _ _ _ _
   |tup l' =>
    cases l' with
    |nil=>exact Zfc l _ _ _ _
    |cons _ _=>rfl
   |_=>rfl
theorem Zcf(fr:Fr):∀l,YN [] fr l=true
 |[]=>rfl
 |(i,w)::r=>by simp only[YN,QC,Zcf fr r];rfl
def Zb2(dy:List (Nat×Nat))(acc:List (Nat×List Nat)):Option (Fr×Za×List (Nat×List Nat))→Option (Fr×Za)
 |some (fr,h,l)=>if YN dy fr l=true∧YN dy fr acc=true then some (fr,h)else none
 |none=>none
theorem Zhe{dy:List (Nat×Nat)}{pl:Nat→Nat}{all:List Oper}{f k:Nat}{ks:List It}:∀(l:List Oper) (i:Nat) (fr:Fr) (h:Za) (acc:List (Nat×List Nat)),
  go C F (some (dy,pl)) all f k ks i l fr h acc=ZdL F f k ks (Zb2 dy acc (X0 C F dy pl all i l fr h))
 |[],i,fr,h,acc=>by simp only[go,goE,X0,Zb2,YN,PW];split<;>rfl
 |o::l,i,fr,h,acc=>by
  have step:(match goS C F (some (dy,pl)) i fr h o.op with
   |some (v,h')=>go C F (some (dy,pl)) all f k ks (i+1) l (put fr o.dst v) h' (goA (some (dy,pl)) i h h' (goT (some (dy,pl)) i fr h o.op) acc)
   |none=>none)=ZdL F f k ks (Zb2 dy acc (match XP C F dy pl i (ev fr) h o.op with
    |some (v,h')=>match X0 C F dy pl all (i+1) l (put fr o.dst v) h' with
     |some (e,m,l)=>some (e,m,(i,chg h h' (Ys (pl 0) dy i (ev fr) h o.op))::l)
     |none=>none
    |none=>none)):=by
   simp only[goS];cases XP C F dy pl i (ev fr) h o.op with
   |none=>rfl
   |some p =>
    obtain⟨v,h'⟩:=p;simp only;rw[Zhe l (i+1) _ h' _];cases B:X0 C F dy pl all (i+1) l (put fr o.dst v) h' with
    |none=>rfl
    |some q =>
     obtain⟨e,m,l'⟩:=q;congr 1;cases dy with
     |nil=>simp only[Zb2,Zcf,PQ,V7]
     |cons d dy =>
      simp only[Zb2,goA,goT,YN,VA];congr 1;simp only[Sm];constructor
      ·rintro⟨a,b,c⟩;exact⟨⟨b,a⟩,c⟩
      rintro⟨⟨b,a⟩,c⟩;exact⟨a,b,c⟩
  cases u:o.guard with
  |none=>simp only[go,X0,u];exact step
  |some A =>
   obtain⟨j,s⟩:=A;simp only[go,X0,u];cases D:ZdW fr (Wu all j)with
   |bool b =>
    simp only;by_cases y:b=s
    ·simp only[y,V7];exact step
    simp only[y,UA];exact Zhe l _ _ _ _
   |tup l' =>
    cases l' with
    |nil=>exact Zhe l _ _ _ _
    |cons _ _=>rfl
   |_=>rfl
theorem Zvt(x:Option (Fr×Za×List (Nat×List Nat))):Zb2 dy [] x=ZgP dy x:=by
 cases x with
 |none=>rfl
 |some p=>obtain⟨fr,h,l⟩:=p;simp[Zb2,ZgP,YN]
end
section
variable{C:Cfg}{f k id:Nat}{ks:List It}{fr:Fr}{h:Za}{ops:List Oper}
@[go_sem]theorem ZET:R C (.run f k (.code (.region id ops.toArray false)::ks) fr h)=go C (R C) none ops f k (ZcE id ks (C.post f)) 0 ops fr h []:=by rw[ZuH,Zfc]
@[go_sem]theorem ZEp:R C (.run f k (.code (.region id ops.toArray true)::ks) fr h)=go C (R C) (some (C.dyn f id,Zle h.length ops)) ops f k (ZcE id ks (C.post f)) 0 ops fr (h++List.replicate (J3 ops) .hole) []:=by rw[ZBI,Zhe,Zvt]
end
section
variable{C:Cfg}{F:Tk→Res}{md:Option (List (Nat×Nat)×(Nat→Nat))}{all rest:List Oper}{f k i:Nat}{ks:List It}{fr:Fr}{h:Za}{acc:List (Nat×List Nat)}{d:Option Tmp}{op:Op}{t:TypeId}{p:String}{ed:Array Edge}
@[go_sem]theorem ZEg:go C F md all f k ks i [] fr h acc=goE F md f k ks fr h acc:=rfl
@[go_sem]theorem ZDG:go C F md all f k ks i (⟨d,op,t,p,ed,none⟩::rest) fr h acc=goN C F md all f k ks i rest fr h (goT md i fr h op) acc d (goS C F md i fr h op):=by simp only[go];generalize goS C F md i fr h op=v;cases v<;>rfl
@[go_sem]theorem ZDd{j:Nat}{e:Bool}:go C F md all f k ks i (⟨d,op,t,p,ed,some (j,e)⟩::rest) fr h acc=goG C F md all f k ks i rest fr h acc d op e (ZdW fr (Wu all j)):=by
 simp only[go];generalize ZdW fr (Wu all j)=v;cases v with
 |bool b =>
  simp only[goG];generalize goS C F md i fr h op=s;cases s<;>rfl
 |tup l=>cases l<;>rfl
 |_=>rfl
@[go_sem]theorem ZDa:goN C F md all f k ks i rest fr h T acc d (some (v,h'))=go C F md all f k ks (i+1) rest (put fr d v) h' (goA md i h h' T acc):=rfl
@[go_sem]theorem ZDM:goG C F md all f k ks i rest fr h acc d op true (.bool true)=goN C F md all f k ks i rest fr h (goT md i fr h op) acc d (goS C F md i fr h op):=rfl
@[go_sem]theorem ZD8:goG C F md all f k ks i rest fr h acc d op true (.bool false)=go C F md all f k ks (i+1) rest (put fr d (.tup [])) h acc:=rfl
@[go_sem]theorem ZEw:goG C F md all f k ks i rest fr h acc d op false (.bool true)=go C F md all f k ks (i+1) rest (put fr d (.tup [])) h acc:=rfl
@[go_sem]theorem ZEc:goG C F md all f k ks i rest fr h acc d op false (.bool false)=goN C F md all f k ks i rest fr h (goT md i fr h op) acc d (goS C F md i fr h op):=rfl
theorem ZK{b:Bool}{r:Res}(e:b=true→goN C F md all f k ks i rest fr h (goT md i fr h op) acc d (goS C F md i fr h op)=r)(h2:b=false→go C F md all f k ks (i+1) rest (put fr d (.tup [])) h acc=r):goG C F md all f k ks i rest fr h acc d op true (.bool b)=r:=by
 cases b
 ·exact h2 rfl
 exact e rfl
theorem ZT{b:Bool}{r:Res}(e:b=true→go C F md all f k ks (i+1) rest (put fr d (.tup [])) h acc=r)(h2:b=false→goN C F md all f k ks i rest fr h (goT md i fr h op) acc d (goS C F md i fr h op)=r):goG C F md all f k ks i rest fr h acc d op false (.bool b)=r:=by
 cases b
 ·exact h2 rfl
 exact e rfl
theorem ZG{a b:Code}{t:Bool}{r:Res}(e:t=true→F (.run f k (.code a::ks) fr h)=r)(h2:t=false→F (.run f k (.code b::ks) fr h)=r):ZcD F f k ks a b fr h (.bool t)=r:=by
 cases t
 ·exact h2 rfl
 exact e rfl
@[go_sem]theorem ZDu{e:Bool}:goG C F md all f k ks i rest fr h acc d op e (.tup [])=go C F md all f k ks (i+1) rest (put fr d (.tup [])) h acc:=rfl
@[go_sem]theorem ZB8:goE F none f k ks fr h acc=F (.run f k ks fr h):=rfl
@[go_sem]theorem ZDj:goE F (some ([],pl)) f k ks fr h acc=F (.run f k ks fr h):=by simp only[goE,Zcf,V7]
@[go_sem]theorem ZEM{a:Nat×Nat}:goE F (some (a::dy,pl)) f k ks fr h acc=if YN (a::dy) fr acc=true then F (.run f k ks fr h)else none:=rfl
@[go_sem]theorem ZB4:goT none i fr h op=[]:=rfl
@[go_sem]theorem ZCD:goT (some ([],pl)) i fr h op=[]:=rfl
@[go_sem]theorem ZEs{a:Nat×Nat}:goT (some (a::dy,pl)) i fr h op=Ys (pl 0) (a::dy) i (ev fr) h op:=rfl
@[go_sem]theorem ZB0:goA none i h h' T acc=[]:=rfl
@[go_sem]theorem ZC5:goA (some ([],pl)) i h h' T acc=[]:=rfl
@[go_sem]theorem ZEa{a:Nat×Nat}:goA (some (a::dy,pl)) i h h' T acc=(i,chg h h' T)::acc:=rfl
@[go_sem]theorem ZB3:goS C F none i fr h op=Z8 C F (ev fr) h op:=rfl
@[go_sem]theorem ZC1:goS C F (some (dy,pl)) i fr h op=XP C F dy pl i (ev fr) h op:=rfl
end
noncomputable def RL(C:Cfg)(t:Tk):Res:=R C t
theorem Ze(C:Cfg)(t:Tk):RL C t=R C t:=rfl
noncomputable def ZoQ(C:Cfg)(f k:Nat)(ks:List It)(id:Nat)(b:Code)(fr:Fr)(h:Za):Option (List Nat×List (Nat×Option Nat×Nat×Bool)×List Nat)→Res
 |some (live,os,fz)=>Zeh (RL C) f k ks id b (live,fz) (frz k live fz (restr (QR fr h os).1 live) (QR fr h os).2)
 |none=>R C (.run f k (.code (.loop b)::.blk id h.length::ks) fr h)
section
variable{C:Cfg}{f k id n:Nat}{ks:List It}{fr:Fr}{h:Za}{a b:Code}
@[go_sem]theorem ZBX:R C (.run f k (.code (.block id (.loop b))::ks) fr h)=ZoQ C f k ks id b fr h (C.live f id):=by
 rw[ZqZ];cases C.live f id with
 |none| some p=>rfl
@[go_sem]theorem Zxn{live:List Nat}{os:List (Nat×Option Nat×Nat×Bool)}{e:List Nat}:ZoQ C f k ks id b fr h (some (live,os,e))=Zeh (RL C) f k ks id b (live,e) (frz k live e (restr (QR fr h os).1 live) (QR fr h os).2):=rfl
@[go_sem]theorem ZDS{live:List Nat×List Nat}:R C (.run f k (.lp b (some live) n::ks) fr h)=ZbN (RL C) f k ks b live n fr h:=ZDY
theorem Zoc(e:∀x,a≠.loop x):R C (.run f k (.code (.block id a)::ks) fr h)=R C (.run f k (.code a::.blk id h.length::ks) fr h):=by
 rw[ZqZ];unfold Zdl;split
 ·split
  ·rename_i x;exact absurd rfl (e x)
  rfl
 rfl
@[go_sem]theorem ZB7:R C (.run f k (.code (.block id (.seq a b))::ks) fr h)=R C (.run f k (.code (.seq a b)::.blk id h.length::ks) fr h):=Zoc (by simp)
@[go_sem]theorem Zyh{d:Bool}:R C (.run f k (.code (.block id (.region i ops d))::ks) fr h)=R C (.run f k (.code (.region i ops d)::.blk id h.length::ks) fr h):=Zoc (by simp)
end
section
variable{P:Program}{ρ:Go.Shelf.Ren}
open Go.Shelf Go.RowKit in
set_option maxHeartbeats 2000000 in
set_option maxRecDepth 100000 in
theorem Any.Builder_String_exact(L:Lays.n169 P ρ)(X:Builder.Extra P ρ)(b g cap:Nat)(p:Value)(T:TypeId)(cur:Array Value)(s:Nat×Nat)(l:List UInt8)(w:World)(B:l≠[])
  (u:w.heap[b]?=some (.cells #[p,.slice (some ⟨g,0,none⟩) l.length cap] T (0,0))) (D:w.heap[g]?=some (.cells cur (ρ.t 5) s)) (E:l.length≤cap) (y:l.length≤cur.size) (A:l.length≤9223372036854775807)
  (m:∀(j:Nat) (x:UInt8),l[j]?=some x→cur[j]?=some (Value.int .u8 x.toNat)) :
  Calls P (ρ.f 169) #[.pointer (some ⟨b,0,none⟩)] w fun e w'=>e=.returned (.string ⟨l.toArray⟩)∧w'=w.drew.freeze ⟨g,0,none⟩ l.length:=by
 have O:l.length≠0:=by simpa using B
 have c1:w.drew.cell? ⟨b,1,none⟩=some (.slice (some ⟨g,0,none⟩) l.length cap):=by have:w.drew.heap[b]?=some (.cells #[p,.slice (some ⟨g,0,none⟩) l.length cap] T (0,0)):=u;rw[S7 this];rfl
 have Q:(Builtin.unsafeSliceData_ #[(ρ.t 37)] (ρ.t 127) #[.slice (some ⟨g,0,none⟩) l.length cap]).run P w.drew=.ok (.pointer (some ⟨g,0,none⟩)) w.drew :=
  Lib.run_unsafeSliceData_row _ _ _ _ _ _ (by omega)
 have S:(Builtin.unsafeString_ #[(ρ.t 127),(ρ.t 3)] (ρ.t 9) #[.pointer (some ⟨g,0,none⟩),.int .i64 l.length]).run P w.drew=.ok (.string ⟨l.toArray⟩) (w.drew.freeze ⟨g,0,none⟩ l.length):=by
  refine Lib.run_unsafeString_row w.drew (ρ.t 127) (ρ.t 3) (ρ.t 9) (ρ.t 5) L.t127 X.cellsByte g cur.size (by have o:w.drew.heap[g]?=some (.cells cur (ρ.t 5) s):=D;simp[World.shape?,o]) l B y A ?_;intro j x U;have o:w.drew.heap[g]?=some (.cells cur (ρ.t 5) s):=D;have q:(⟨g,0,none⟩:Addr).add j=⟨g,j,none⟩:=by unfold Addr.add;split<;>simp_all
  rw[q,S7 o];exact m j x U
 have mixed:=L.mixed;have W:=L.t72;have Y:=L.a72;have Z:=L.z72;have a0:=L.v72;have a1:=Vs L.t72;have a2:=L.t70;have a4:=L.a70;have a6:=L.z70;have a7:=L.v70;have a8:=Vs L.t70;have aa:=L.t37;have ab:=L.a37;have ac:=L.z37;have ad:=L.v37;have ae:=Vs L.t37;have G:=L.t127;have H:=L.a127;have J:=L.z127;have M:=L.v127;have N:=Vs L.t127;have t3:=L.t3;have a3:=L.a3;have z3:=L.z3;have v3:=L.v3;have u3:=Vs L.t3;have t9:=L.t9;have a9:=L.a9;have z9:=L.z9;have v9:=L.v9;have u9:=Vs L.t9;have t5:=X.t5;have a5:=X.a5;have z5:=X.z5;have v5:=X.v5;have u5:=Vs X.t5
 go_enter L.f169,Body.n169_ntmps ρ
 go_wp2
 go_region_o
 all_goals (go_wp2;go_ret;exact⟨rfl,rfl⟩)
open Go.Shelf Go.RowKit in
set_option maxHeartbeats 2000000 in
set_option maxRecDepth 100000 in
theorem Any.Builder_String_none(L:Lays.n169 P ρ)(X:Builder.Extra P ρ)(b:Nat)(p:Value)(w:World)(j:w.heap[b]?=some (.cells #[p,.slice none 0 0] (ρ.t 72) (0,0))):
  Calls P (ρ.f 169) #[.pointer (some ⟨b,0,none⟩)] w fun e w'=>e=.returned (.string ⟨#[]⟩)∧w'=w.drew:=by
 have u:=Any.unsafeString_none L X;have Z:w.drew.cell? ⟨b,1,none⟩=some (.slice none 0 0):=by have:w.drew.heap[b]?=some (.cells #[p,.slice none 0 0] (ρ.t 72) (0,0)):=j;rw[S7 this];rfl
 have y:(Builtin.unsafeSliceData_ #[(ρ.t 37)] (ρ.t 127) #[.slice none 0 0]).run P w.drew=.ok (.pointer none) w.drew:=rfl;have mixed:=L.mixed;have A:=L.t72;have B:=L.a72;have D:=L.z72;have E:=L.v72;have G:=Vs L.t72;have H:=L.t70;have J:=L.a70;have M:=L.z70;have N:=L.v70;have O:=Vs L.t70;have Q:=L.t37;have S:=L.a37;have U:=L.z37;have W:=L.v37;have Y:=Vs L.t37;have l:=L.t127;have m:=L.a127;have o:=L.z127;have q:=L.v127;have s:=Vs L.t127;have t3:=L.t3;have a3:=L.a3;have z3:=L.z3;have v3:=L.v3;have u3:=Vs L.t3;have t9:=L.t9;have a9:=L.a9;have z9:=L.z9;have v9:=L.v9;have u9:=Vs L.t9;have t5:=X.t5;have a5:=X.a5;have z5:=X.z5;have v5:=X.v5;have u5:=Vs X.t5
 go_enter L.f169,Body.n169_ntmps ρ
 go_wp2
 go_region_o
 all_goals (go_wp2;go_ret;exact⟨rfl,rfl⟩)
end
section
variable{Bs:World→Prop}{P:Program}{ρ:Go.Shelf.Ren}
theorem ZuD{v:Value}(m:∀(M:Nat→Nat→Prop) (w:World),PRep M w r v)
  (o:∀(M:Nat→Nat→Prop) (w:World) (vs:List Value),Bs w→PRepL M w args vs→Calls P g vs.toArray w fun e w'=>e=.returned v∧RowKit.Below w.heap.size w w'):Yr Bs P g args [] r []:=by
 intro μ w vs hrel hargs;refine(o _ w vs (hrel.base w fun _ _=>rfl) (RepL.no_own _ _ hargs)).mono ?_;rintro e w' ⟨rfl,q⟩;have j:=ZfT (μ:=μ) q;exact⟨v,μ,rfl,hrel.ext_same j (fun l b s=>by simp at s),j,Rep.pure _ _ (m _ _)⟩
def Zfe:List (List AV)→Option (List UInt8)
 |[]=>some []
 |[.int .u8 n]::r=>if 0≤n∧n<256 then(match Zfe r with
  |some l=>some (UInt8.ofNat n.toNat::l)
  |none=>none)else none
 |_=>none
theorem ZiW:∀(rs:List (List AV)) (s:List UInt8),Zfe rs=some s→rs=Ya s
 |[],s,e=>by simp only[Zfe,Va]at e;subst e;rfl
 |row::r,s,e=>by
  unfold Zfe at e;split at e
  ·simp at *
  ·rename_i n r' j;obtain⟨rfl,rfl⟩:=PM j;split at e
   ·rename_i o;split at e
    ·rename_i l m;simp only[Va]at e;subst e;rw[Ya,ZiW r l m];have:((UInt8.ofNat n.toNat).toNat:Int)=n:=by rw[SW];omega
     rw[this]
    simp at e
   simp at e
  simp at e
def Zef(t:TypeId):List AV→Za→Option (AV×Za)
 |[.tptr t' 0 0],.cells [.nilp,x]::r| [.tptr t' 0 0],.cells [.ptr 0 0,x]::r=>if t'=t then some (.tup [],.cells [.ptr 0 0,x]::r)else none
 |_,_=>none
def ZiZ(t e:TypeId):List AV→Za→Option (AV×Za)
 |[.tptr t' 0 0],.cells [p,.town e' 1 n]::.rows 1 rs false::r=>if t'=t∧(e'=e∧(n=rs.length∧(0<n∧n≤9223372036854775807)))then(match Zfe rs with
  |some s=>some (.str s,.cells [p,.town e' 1 n]::.rows 1 rs false::r)
  |none=>none)else none
 |[.tptr t' 0 0],.cells [p,.nils]::r=>if t'=t then some (.str [],.cells [p,.nils]::r)else none
 |_,_=>none
theorem Zfy{μ:Mp Bs}{h:Za}{t:TypeId}{cs:List AV}{r:Za}{vs:List Value}(l:Rel μ (.cells cs::r) w)(m:RepL μ (.cells cs::r) w [.tptr t 0 0] vs):
  ∃b us,vs=[.pointer (some ⟨b,0,none⟩)]∧μ 0=some b∧w.heap[b]?=some (.cells (List.toArray us) t (0,0))∧singles cs=true∧RepL μ (.cells cs::r) w cs us:=by
 obtain⟨v,o,rfl,q,h2⟩:=m;have h2:o=[]:=h2;subst h2;obtain⟨s,b,B,e,rfl,u,D,hs⟩:=q;obtain⟨b',us,T,h3,j,y,A⟩:=l.blk 0 _ (show(Blk.cells cs::r)[0]?=some (.cells cs)from rfl);have:b'=b:=by rw[e]at h3;simpa using h3.symm
 subst this;rw[j]at hs;simp only[Va,SB]at hs;obtain⟨_,rfl,_⟩:=hs;exact⟨b',us,rfl,e,j,y,A⟩
theorem Zdw{μ:Mp Bs}{p x:AV}{us:List Value}(r:RepL μ h w [p,x] us):∃u v,us=[u,v]∧Rep μ h w p u∧Rep μ h w x v:=by obtain⟨u,l,rfl,e,v,j,rfl,h2,h3⟩:=r;have h3:j=[]:=h3;subst h3;exact⟨u,v,rfl,e,h2⟩
open Go.Shelf in
theorem Zgf(L:Lays.n240 P ρ)(X:Builder.X72 P ρ){h:Za}(e:Zef (ρ.t 72) args h=some (v,h')):Yr Bs P (ρ.f 240) args h v h':=by
 unfold Zef at e;split at e
 ·rename_i t' x r;split at e
  ·rename_i y;subst y;simp only[Va,Vp]at e;obtain⟨rfl,rfl⟩:=e;intro μ w vs hr ha;obtain⟨b,us,rfl,o,j,hs,A⟩:=Zfy (h:=[]) hr ha;obtain⟨u,v,rfl,q,h2⟩:=Zdw A;have q:u=.pointer none:=q;subst q;have B:w.cell? ⟨b,0,none⟩=some (.pointer none):=by rw[S7 j];rfl
   have D:w.shape? b=some ((ρ.t 72),2):=by simp[World.shape?,j]
   have E:w.frozen? ⟨b,0,none⟩=false:=Lib.frozen_of_heap j 0;refine(Any.Builder_copyCheck_fresh L X b w B D E).mono ?_;rintro e w' ⟨rfl,rfl⟩;rw[setCell_eq_setRow w b 0 _ _ _ _ j];have M:(w.setRow b (#[Value.pointer none,v].setIfInBounds 0 (.pointer (some ⟨b,0,none⟩)))).heap[b]?=some (.cells #[.pointer (some ⟨b,0,none⟩),v] (ρ.t 72) (0,0)):=U8 w b _ _ _ _ j;have G:Ext μ (.cells [.nilp,x]::r) w μ ((Blk.cells [.nilp,x]::r).set 0 (.cells [.ptr 0 0,x])) (w.setRow b (#[Value.pointer none,v].setIfInBounds 0 (.pointer (some ⟨b,0,none⟩)))) :=
    Ext.update hr (l:=0) rfl o j M (fun H m=>Sb w b H _ m) rfl rfl rfl (by simp) rfl (fun _ _ _ J=>absurd trivial J) (fun _ _=>trivial) trivial
   refine⟨.tuple #[],μ,rfl,Rel.update hr (l:=0) rfl o (fun H m=>Sb w b H _ m) G ?_,G,[],rfl,rfl⟩;refine⟨b,[.pointer (some ⟨b,0,none⟩),v],ρ.t 72,o,M,?_,.pointer (some ⟨b,0,none⟩),[v],rfl,?_,v,[],rfl,Rep.ext G _ _ h2,rfl⟩
   ·simp only[singles,U6,VA]at hs ⊢;exact⟨rfl,hs.2⟩
   exact⟨[.ptr 0 0,x],b,rfl,o,rfl⟩
  simp at e
 ·rename_i t' x r;split at e
  ·rename_i y;subst y;simp only[Va,Vp]at e;obtain⟨rfl,rfl⟩:=e;intro μ w vs hr ha;obtain⟨b,us,rfl,o,j,hs,A⟩:=Zfy (h:=[]) hr ha;obtain⟨u,v,rfl,q,h2⟩:=Zdw A;obtain⟨N,b',_,s,rfl⟩:=q;have:b'=b:=by rw[o]at s;simpa using s.symm
   subst this;have B:w.cell? ⟨b',0,none⟩=some (.pointer (some ⟨b',0,none⟩)):=by rw[S7 j];rfl
   refine(Any.Builder_copyCheck_used L X b' w B).mono ?_;rintro e w' ⟨rfl,rfl⟩;exact⟨.tuple #[],μ,rfl,hr,Ext.refl _ _ _,[],rfl,rfl⟩
  simp at e
 simp at e
theorem ZCO{μ:Mp Bs}{h:Za}{l g:Nat}{rs:List (List AV)}(A:Rel μ h w)(B:h[l]?=some (.rows 1 rs false))(o:μ l=some g)(Q:n≤rs.length):
  Rel μ h (w.freeze ⟨g,0,none⟩ n)∧Ext μ h w μ h (w.freeze ⟨g,0,none⟩ n):=by
 by_cases G:n=0
 ·subst G;have:w.freeze ⟨g,0,none⟩ 0=w:=rfl;rw[this];exact⟨A,Ext.refl _ _ _⟩
 rcases A.blk l _ B with⟨_,q⟩|⟨b,vs,T,q,⟨J,h2,h3⟩,L,M⟩
 ·rw[o]at q;simp at q
 have:b=g:=by rw[o]at q;simpa using q.symm
 subst this;have s:h.set l (.rows 1 rs false)=h:=W9 B;have j:∀D,D≠b→(w.freeze ⟨b,0,none⟩ n).heap[D]?=w.heap[D]?:=fun D H=>by unfold World.freeze;rw[Vm G];simp only[S0];rw[Vm (fun e=>H e.symm)]
 obtain⟨m,u,y⟩:∃m:Nat×Nat,(w.freeze ⟨b,0,none⟩ n).heap[b]?=some (.cells vs T m)∧m.2≤rs.length*1:=by
  obtain⟨lo,hi⟩:=J;refine⟨if lo==hi then(0,0+n)else(min lo 0,max hi (0+n)),?_,?_⟩
  ·unfold World.freeze;rw[Vm G];simp only[S0,V7,h2,Ue]
  have:hi≤rs.length*1:=by
   rcases h3 with h3|h3
   ·simp only[Vp]at h3;omega
   exact h3.2
  split
  ·simp;omega
  simp only[VZ,Nat.mul_one]at this ⊢;omega
 have E:Ext μ h w μ (h.set l (.rows 1 rs false)) (w.freeze ⟨b,0,none⟩ n) :=
  Ext.update A B o h2 u j (by unfold World.freeze;split<;>rfl) (by unfold World.freeze;split<;>rfl) (by unfold World.freeze;split<;>rfl) (by unfold World.freeze;split<;>simp) rfl (fun _ _ N _=>N) (fun _ O=>O) ⟨rfl,Vw _⟩
 have re:=Rel.update A B o j E (.inr ⟨b,vs,T,o,⟨m,u,.inr ⟨rfl,y⟩⟩,L,M.ext E⟩);rw[s]at E re;exact⟨re,E⟩
open Go.Shelf in
theorem Zi7(L:Lays.n169 P ρ)(X:Builder.Extra P ρ){h:Za}(e:ZiZ (ρ.t 72) (ρ.t 5) args h=some (v,h')):Yr Bs P (ρ.f 169) args h v h':=by
 unfold ZiZ at e;split at e
 ·rename_i t' p e' n rs r;split at e
  ·rename_i W;obtain⟨rfl,rfl,Q,D,y⟩:=W;split at e
   ·rename_i s hs;simp only[Va,Vp]at e;obtain⟨rfl,rfl⟩:=e;have E:=ZiW rs s hs;subst E;rw[Y6]at Q;subst Q;intro μ w vs hr ha;obtain⟨b,us,rfl,Y,G,_,H⟩:=Zfy (h:=[]) hr ha;obtain⟨u,v,rfl,Z,h2⟩:=Zdw H;have l:(Blk.cells [p,.town (ρ.t 5) 1 s.length]::Blk.rows 1 (Ya s) false::r)[1]?=some (.rows 1 (Ya s) false):=rfl;obtain⟨z2,a0,a1,base,cap,m,_,rfl,hv⟩:=h2;rw[l]at m;simp only[Va,Blk.rows.injEq]at m;obtain⟨rfl,rfl,rfl⟩:=m;obtain⟨h3,_,h4⟩:=hv (by rw[Y6]);rcases h4 with⟨_,a2⟩|⟨g,cur,rfl,o,⟨fz,S⟩,a3⟩
    ·omega
    rcases hr.blk 1 _ l with⟨_,A⟩|⟨g',U,T',A,⟨a4,J,_⟩,h7,h8⟩
    ·rw[o]at A;simp at A
    have:g'=g:=by rw[o]at A;simpa using A.symm
    subst this;rw[S]at J;simp only[Va,SB]at J;obtain⟨rfl,rfl,rfl⟩:=J;rw[Y6]at h7;refine(Any.Builder_String_exact L X b g' cap u _ cur fz s w (fun e=>by subst e;simp at D) G S h3 (by omega) y fun j x hx=>?_).mono ?_
    ·have B:(Ya s)[j]?=some [.int .u8 (x.toNat:Int)]:=by rw[ZbH,hx];rfl
     obtain⟨_,_,h9⟩:=h8 j _ B;obtain⟨u',M,q⟩:=h9 0 _ rfl;have q:u'=.int .u8 (x.toNat:Int):=q;subst q;simpa using M
    rintro e w' ⟨rfl,rfl⟩;have N:Rel μ (.cells [p,.town (ρ.t 5) 1 s.length]::.rows 1 (Ya s) false::r) w.drew:=Zbv hr;have O:Ext μ (.cells [p,.town (ρ.t 5) 1 s.length]::.rows 1 (Ya s) false::r) w μ (.cells [p,.town (ρ.t 5) 1 s.length]::.rows 1 (Ya s) false::r) w.drew:=drew_ext;obtain⟨q1,q2⟩:=ZCO (n:=s.length) N l o (by rw[Y6];exact Vw _);exact⟨_,μ,rfl,q1,O.trans q2,rfl⟩
   simp at e
  simp at e
 ·rename_i t' p r;split at e
  ·rename_i ht;subst ht;simp only[Va,Vp]at e;obtain⟨rfl,rfl⟩:=e;intro μ w vs hr ha;obtain⟨b,us,rfl,Y,G,_,H⟩:=Zfy (h:=[]) hr ha;obtain⟨u,v,rfl,Z,h2⟩:=Zdw H;have h2:v=.slice none 0 0:=h2;subst h2;refine(Any.Builder_String_none L X b u w G).mono ?_;rintro e w' ⟨rfl,rfl⟩;exact⟨_,μ,rfl,Zbv hr,drew_ext,rfl⟩
  simp at e
 simp at e
end
end Go.Ab
