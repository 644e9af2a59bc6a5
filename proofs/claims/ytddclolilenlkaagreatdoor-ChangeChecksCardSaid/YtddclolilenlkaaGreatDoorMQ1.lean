/- What is proved: contracts of the program's and the reference's functions in the evaluator, and plain laws on them. Conditions: as each states. -/
import Derived.Test.YtddclolilenlkaaGreatDoorMC
import Derived.IntWalk
import Derived.KernelRfl
import Derived.Lib.ItoaMem
import Derived.Lib.AtoiAllCases
import Derived.Lib.ItoaLen
import Derived.Lib.CountLaws
set_option linter.unusedSimpArgs false
set_option linter.unusedSectionVars false
set_option linter.unusedVariables false
set_option maxRecDepth 100000
namespace Go.Ab
open Go Go.Proofs Go.Proofs.Tryz
variable{α:Type}{i j m n:Nat}{s:List UInt8}{l:List (List UInt8)}
structure Val where
 k:Int
 n:Int
 s:List UInt8
 deriving DecidableEq
@[go_sem]def enc(v:Val):AV:=.agg [.int .i64 v.k,.int .i64 v.n,.str v.s]
@[go_sem]theorem Val.eta(v:Val):Val.mk v.k v.n v.s=v:=rfl
def null:Val:=⟨0,0,[]⟩
def Zcz:Code→Nat→Option Code
 |.seq a b,i=>match Zcz a i with
  |some c=>some c
  |none=>Zcz b i
 |.cond _ a b,i=>match Zcz a i with
  |some c=>some c
  |none=>Zcz b i
 |.block j c,i=>if j=i then(match c with
  |.loop b=>some b
  |_=>none)else Zcz c i
 |.loop c,i=>Zcz c i
 |_,_=>none
def YP(f:Func)(i:Nat)(B:Code):Prop:=Zcz (f.body.getD .skip) i=some B
attribute [go_sem] YP Zcz
@[go_sem]theorem Zq{n:Int}(b:-9223372036854775808≤n)(h2:n≤9223372036854775807):Zx .i64 n=n:=by exact IntWalk.i64_in _ ⟨b,h2⟩
theorem ZW{l:List α}{x:α}(h:l[i]?=some x):at? l (i:Int)=some x:=by simp[at?,h]
theorem WO{b:UInt8}(h:s[i]?=some b):at? s (i:Int)=some b:=ZW h
theorem Y8{l:List α}{x:α}(h:l[i]?=some x):l.drop i=x::l.drop (i+1):=by obtain⟨b,h2⟩:=Vb.1 h;rw[List.drop_eq_getElem_cons b,h2]
structure Col where
 nm:List UInt8
 kd:Int
 nl:Bool
 df:Val
structure Fgn where
 nm:List UInt8
 cols:List (List UInt8)
 tb:List UInt8
structure Idx where
 nm:List UInt8
 cols:List (List UInt8)
 uq:Bool
structure Tbl where
 nm:List UInt8
 cols:List Col
 key:List (List UInt8)
 fgn:List Fgn
 idx:List Idx
variable{t:Tbl}{x:List Tbl}
abbrev SLs(l:List (List UInt8)):List (List AV):=l.map fun s=>[AV.str s]
def Zh(c:Col):List AV:=[.str c.nm,.int .i64 c.kd,.bool c.nl,.int .i64 c.df.k,.int .i64 c.df.n,.str c.df.s]
def Z7(f:Fgn):List AV:=[.str f.nm,.rows (SLs f.cols),.str f.tb]
def Yq(x:Idx):List AV:=[.str x.nm,.rows (SLs x.cols),.bool x.uq]
def Zc(t:Tbl):List AV:=[.str t.nm,.rows (t.cols.map Zh),.rows (SLs t.key),.rows (t.fgn.map Z7),.rows (t.idx.map Yq)]
abbrev ZX(ts:List Tbl):AV:=.agg [.rows (ts.map Zc)]
def evE(e:Nat→Int):Nat→Nat→Int
 |_,0=>0
 |j,m+1=>if e j=0 then evE e (j+1) m else e j
def orE(a b:Int):Int:=if a=0 then b else a
def ixN(n:List UInt8):List (List UInt8)→Nat→Int
 |[],_=>-1
 |m::r,i=>if m=n then(i:Int)else ixN n r (i+1)
theorem Zpl(n:List UInt8):∀(l:List (List UInt8)) (i:Nat),ixN n l i<((i+l.length:Nat):Int)
 |[],i=>by simp[ixN];omega
 |m::r,i=>by
  unfold ixN;split
  ·simp only[VC];omega
  have:=Zpl n r (i+1);simp only[VC]at this ⊢;omega
theorem Zel(n:List UInt8):∀(l:List (List UInt8)) (i:Nat),ixN n l i=-1∨(i:Int)≤ixN n l i
 |[],i=>.inl rfl
 |m::r,i=>by
  unfold ixN;split
  ·exact .inr (Int.le_refl _)
  rcases Zel n r (i+1)with h|h
  ·exact .inl h
  exact .inr (by omega)
theorem Zb5(n:List UInt8):∀(l:List (List UInt8)) (i:Nat),ixN n l i=-1↔n∉l
 |[],i=>by simp[ixN]
 |m::r,i=>by
  unfold ixN;split
  ·rename_i h;subst h;simp
  rename_i h;rw[Zb5 n r (i+1)];simp[show ¬n=m from fun e=>h e.symm]
theorem Zju(n:List UInt8):∀(l:List (List UInt8)) (i k:Nat),n∈l→(ixN n l i<((i+k:Nat):Int)↔n∈l.take k)
 |[],i,k,h=>by simp at h
 |m::r,i,0,h=>by
  simp only[Ug,Sp,V3,iff_false,Int.not_lt];rcases Zel n (m::r) i with b|b
  ·exact absurd h ((Zb5 n _ _).1 b)
  exact b
 |m::r,i,k+1,h=>by
  unfold ixN;split
  ·rename_i e;subst e;simp;omega
  rename_i e;have c:n∈r:=by
   rcases Vn.1 h with h|h
   ·exact absurd h.symm e
   exact h
  rw[show i+(k+1)=(i+1)+k by omega,Zju n r (i+1) k c];simp[show ¬n=m from fun e'=>e e'.symm]
theorem Zug(n:List UInt8):∀(l:List (List UInt8)) (i j:Nat),ixN n l i=(j:Int)→i≤j∧l[j-i]?=some n
 |[],i,j,h=>by simp[ixN]at h
 |m::r,i,j,h=>by
  unfold ixN at h;split at h
  ·rename_i e;have:i=j:=by omega
   subst this;subst e;simp
  obtain⟨b,h2⟩:=Zug n r (i+1) j h;refine⟨by omega,?_⟩;rw[show j-i=(j-(i+1))+1 by omega,VJ];exact h2
def chB(o:List UInt8)(c:UInt8):Bool:=(decide (97≤c.toNat)&&decide (c.toNat≤122))||(decide (48≤c.toNat)&&decide (c.toNat≤57))||o.contains c
def ZC7(o:List UInt8)(m:Nat)(s:List UInt8):Bool:=match s with
 |[]=>false
 |c::_=>s.all (chB o)&&decide (s.length≤m)&&(decide (97≤c.toNat)&&decide (c.toNat≤122))
abbrev Xw(s:List UInt8):Bool:=ZC7 [95] 40 s
def Q9(s b:List UInt8)(first:Bool):Int:=if Xw s=false then 5 else if first=false∧(Op.bytesLess s b=true∨s=b)then 7 else 0
abbrev I(n:Int):AV:=.int .i64 n
attribute [go_sem] Z0 conv Qp Y7 YQ sub YY Xl ren back WZ ZO SX Ss Vz VO ST ite_self
def ZdC(h:Za)(f:AV)(e:Nat→Int)(n:Nat):Prop:=∀i,i<n→ZU nlA (R K) h [I (i:Int)] f=some (I (e i),h)
theorem Zqf(f:AV)(h:Za)(e:Nat→Int)(n:Nat)(v:n≤1000000)(p:Zi h.length (Zk h)=true)(r:ZdC h f e n)(ks:List It):∀(q j:Nat) (i:Int) (c:Code),YP f109 0 c→i=(j:Int)→n=j+q →
  RL K (.run 109 h.length (.code c::.lp c (some ([1,7,8],[])) h.length::.blk 0 h.length::ks) [(1,f),(7,I (n:Int)),(8,I i)] h) =
  if evE e j q=0 then R K (.run 109 h.length ks [] h)else some (I (evE e j q),h)
 |0,j,i,c,b,hi,w=>by
  subst hi;have d:¬(j:Int)<(n:Int):=by omega
  simp only[go_sem,simprocAttr,f109]at b;subst b;rw[Ze];simp only[go_sem,simprocAttr,d,evE]
 |q+1,j,i,c,b,hi,w=>by
  subst hi;have k:=b;have d:(j:Int)<(n:Int):=by omega
  have y:Zx .i64 ((j:Int)+1)=((j+1:Nat):Int):=by rw[Zq (by omega) (by omega)];omega
  have u:=r j (by omega);have A:=Zqf f h e n v p r ks q (j+1) _ c k rfl (by omega);by_cases g:e j=0
  ·have o:evE e j (q+1)=evE e (j+1) q:=by simp only[evE];rw[Vr g]
   rw[o];simp only[go_sem,simprocAttr,f109]at b;subst b;rw[Ze];simp only[go_sem,simprocAttr,d,y,u,g,bne];rw[A]
  have o:evE e j (q+1)=e j:=by simp only[evE];rw[Vm g]
  have C:(e j==0)=false:=by simpa using g
  rw[o,Vm g];simp only[go_sem,simprocAttr,f109]at b;subst b;rw[Ze];simp only[go_sem,simprocAttr,d,u,C,bne,p]
theorem Za2(f:AV)(h:Za)(e:Nat→Int)(n:Nat)(c:n≤1000000)(b:Zi h.length (Zk h)=true)(d:ZdC h f e n):R K (.call 109 [I (n:Int),f] h)=some (I (evE e 0 n),h):=by
 have g:=fun ks B k=>Zqf f h e n c b d ks n 0 0 B k rfl (by omega);rw[Zvj];simp only[go_sem,simprocAttr,f109];rw[g _ _ ?_]
 ·split
  ·rename_i o;rw[o];simp only[go_sem,simprocAttr,b]
  rfl
 rfl
theorem Ztq(b:UInt8):∀o:List UInt8,decide (Lib.indexByte o b<0)=!o.contains b
 |[]=>rfl
 |c::o=>by
  have d:=Ztq b o;have f:=Lib.indexByte_ge o b;unfold Lib.indexByte;rw[SX];by_cases h:c=b
  ·subst h;simp
  have g:(c==b)=false:=by simpa using h
  have h2:(b==c)=false:=by simpa using fun e:b=c=>h e.symm
  rw[g,h2];simp only[V6,UA,UM];rw[←d];by_cases h3:Lib.indexByte o b=-1
  ·simp[h3]
  have k:(Lib.indexByte o b==-1)=false:=by simpa using h3
  rw[k];simp only[V6,UA];congr 1;simp only[Sm];omega
theorem Zsl(b:UInt8):((b.toNat:Int).toNat.toUInt8)=b:=by simp
theorem ZmD(o:List UInt8)(b:UInt8):R K (.call 325 [.str o,.int .u8 (b.toNat:Int)] [])=some (I (Lib.indexByte o b),[]):=Qn (by show some (AV.int .i64 (Lib.indexByte o ((b.toNat:Int).toNat.toUInt8)))=_;rw[Zsl])
theorem ZBe(o:List UInt8)(c:UInt8):chB o c=!((decide ((c.toNat:Int)<97)||decide ((c.toNat:Int)>122))&&(decide ((c.toNat:Int)<48)||decide ((c.toNat:Int)>57))&&decide (Lib.indexByte o c<0)):=by rw[Ztq];unfold chB;rw[UE];cases o.contains c<;>simp<;>omega
theorem ZhF(s o:List UInt8)(hs:s.length≤100000000)(ks:List It):∀(q j:Nat) (i:Int) (c:Code),YP f251 0 c→i=(j:Int)→s.length=j+q →
  RL K (.run 251 0 (.code c::.lp c (some ([0,1,8,9],[])) 0::.blk 0 0::ks) [(0,.str s),(1,.str o),(8,I (s.length:Int)),(9,I i)] []) =
  if(s.drop j).all (chB o)=true then R K (.run 251 0 ks [(0,.str s)] [])else some (.bool false,[])
 |0,j,i,c,e,hi,r=>by
  subst hi;have d:¬(j:Int)<(s.length:Int):=by omega
  rw[V2 (by omega),List.all_nil,Vr rfl];simp only[go_sem,simprocAttr,f251]at e;subst e;rw[Ze];simp only[go_sem,simprocAttr,d]
 |q+1,j,i,c,e,hi,r=>by
  subst hi;have f:=e;have d:(j:Int)<(s.length:Int):=by omega
  have g:Zx .i64 ((j:Int)+1)=((j+1:Nat):Int):=by rw[Zq (by omega) (by omega)];omega
  obtain⟨b,h⟩:∃b,s[j]?=some b:=⟨s[j]'(by omega),VB _⟩;have k:=WO h;have u:=ZhF s o hs ks q (j+1) _ c f rfl (by omega);rw[Y8 h,List.all_cons];have p:=ZmD o b;rw[ZBe];simp only[go_sem,simprocAttr,f251]at e;subst e;rw[Ze];simp only[go_sem,simprocAttr,d,g,k,p]
  repeat' ((first|apply ZG|apply ZK|apply ZT)<;>intro v<;>simp only[v,go_sem,simprocAttr,d,g,k,p])
  all_goals (try rw[u])
  all_goals simp_all
theorem Zpz(s o:List UInt8)(hs:s.length≤100000000):R K (.call 251 [.str s,.str o] [])=some (.bool (s.all (chB o)&&!(s==[])),[]):=by
 have c:=fun ks B d=>ZhF s o hs ks s.length 0 0 B d rfl (by omega);simp only[Ui]at c;rw[Zva];simp only[go_sem,simprocAttr,f251];rw[c _ _ ?_]
 ·split
  ·rename_i b;rw[b];simp only[go_sem,simprocAttr]
  rename_i b;rw[U2]at b;rw[b];rfl
 rfl
def Zo6(c:UInt8):Bool:=decide (97≤c.toNat)&&decide (c.toNat≤122)
theorem ZyU(c:UInt8):R K (.call 337 [.int .u8 (c.toNat:Int)] [])=some (.bool (Zo6 c),[]):=by
 have d:decide ((97:Int)≤(c.toNat:Int))=decide (97≤c.toNat):=by congr 1;simp only[Sm];omega
 have h2:decide ((c.toNat:Int)≤122)=decide (c.toNat≤122):=by congr 1;simp only[Sm];omega
 rw[Zuu];simp only[go_sem,simprocAttr,f337]
 repeat' ((first|apply ZG|apply ZK|apply ZT)<;>intro b<;>simp only[b,go_sem,simprocAttr])
 all_goals (unfold Zo6;simp_all<;>omega)
theorem Zof(s:List UInt8)(hs:s.length≤100000000):R K (.call 283 [.str s] [])=some (.bool (Xw s),[]):=by
 have b:=Zpz s [95] hs;cases s with
 |nil =>
  have d:(([]:List UInt8).all (chB [95])&&!(([]:List UInt8)==[]))=false:=rfl;rw[d]at b;rw[ZmR];simp only[go_sem,simprocAttr,f283,b];rfl
 |cons c r =>
  have d:((c::r:List UInt8)==[])=false:=rfl;rw[d]at b;simp only[VN,U6]at b;have g:at? (c::r) (0:Int)=some c:=rfl;have h:=ZyU c;have h2:decide (((c::r).length:Int)≤40)=decide ((c::r).length≤40):=by congr 1;simp only[Sm];omega
  have e:Xw (c::r)=((c::r).all (chB [95])&&decide ((c::r).length≤40)&&Zo6 c):=rfl;rw[e];generalize(c::r).all (chB [95])=x at b ⊢;rw[ZmR];simp only[go_sem,simprocAttr,f283,b,g,h]
  repeat' ((first|apply ZG|apply ZK|apply ZT)<;>intro b<;>simp only[b,go_sem,simprocAttr,b,g,h])
  all_goals (simp only[VK,Sr]at b)
  ·have f:r.length≤39:=by omega
   simp[f]
  have f:¬r.length≤39:=by omega
  simp[f]
theorem Zf5{p:UInt8→Bool}:∀{l:List UInt8},l.dropWhile p=[]↔l.all p=true
 |[]=>by simp
 |b::l=>by
  rw[List.dropWhile_cons,List.all_cons];cases p b with
  |true=>simp only[V7,UC];exact Zf5
  |false=>simp
theorem Zih{p:UInt8→Bool}:∀{l:List UInt8} {c:UInt8} {r:List UInt8},l.dropWhile p=c::r→p c=false
 |[],_,_,h=>by simp at h
 |b::l,c,r,h=>by
  rw[List.dropWhile_cons]at h;cases d:p b with
  |true=>rw[d,Vr rfl]at h;exact Zih h
  |false =>
   rw[d,Vm (by simp)]at h;rw[(PM h).1]at d;exact d
theorem Ztg(s cs:List UInt8):Lib.trimS s cs=[]↔s.all (cs.contains ·)=true:=by
 unfold Lib.trimS Lib.trimLeftS Lib.trimRightS;rw[Zf5];cases b:s.reverse.dropWhile (cs.contains ·)with
 |nil =>
  have:=Zf5.1 b;rw[List.all_reverse]at this;simp only[List.reverse_nil,List.all_nil,true_iff];exact this
 |cons c r =>
  have d:=Zih b;have e:c∈s:=by
   have:c∈s.reverse.dropWhile (cs.contains ·):=by rw[b];simp
   exact List.mem_reverse.1 ((List.dropWhile_sublist _).mem this)
  constructor
  ·intro h;rw[List.all_reverse]at h;have:=Um.1 h c (by simp);rw[d]at this;simp at this
  intro h;have:=Um.1 h c e;rw[d]at this;simp at this
def lettB:List UInt8:=[97,98,99,100,101,102,103,104,105,106,107,108,109,110,111,112,113,114,115,116,117,118,119,120,121,122,48,49,50,51,52,53,54,55,56,57,95]
theorem Zs0(c:UInt8):lettB.contains c=chB [95] c:=by
 have h:∀n:Fin 256,lettB.contains (UInt8.ofNat n.val)=chB [95] (UInt8.ofNat n.val):=by decide +kernel
 have:=h ⟨c.toNat,c.toNat_lt⟩;simpa using this
def ZY(n a b:Int):Bool:=decide (a≤n)&&decide (n≤b)
theorem YJ(n a b:Int):R K (.call 28 [.int .i64 n,.int .i64 a,.int .i64 b] [])=some (.bool (ZY n a b),[]):=by
 rw[Zyi];simp only[go_sem,simprocAttr,f28]
 repeat' ((first|apply ZG|apply ZK|apply ZT)<;>intro c<;>simp only[c,go_sem,simprocAttr])
 all_goals simp[ZY, *]
theorem Zhd(s:List UInt8)(hs:s.length≤100000000):R K (.call 62 [.str s,.bool true] [])=some (.bool (Xw s),[]):=by
 have d:R K (.call 129 [.str s,.str lettB] [])=some (.str (Lib.trimS s lettB),[]):=Qn (by
  show Zob [.str s,.str lettB]=_;simp only[Zob];have w:decide (s.length≤9223372036854775807)=true:=Pk (by omega);have h2:(decide (lettB.length<4294967281)&&ZkO lettB)=true:=by decide
  rw[Vr (by rw[w,h2];rfl)])
 have b:(Lib.trimS s lettB==[])=s.all (chB [95]):=by have h:=Ztg s lettB;have e:(fun c=>lettB.contains c)=chB [95]:=funext Zs0;rw[e]at h;rw[UE,Up];exact h
 unfold lettB at d b;cases s with
 |nil =>
  rw[Zqu];simp only[go_sem,simprocAttr,f62,Sw];rfl
 |cons c r =>
  have o:at? (c::r) (0:Int)=some c:=rfl;have p:((c::r:List UInt8)==[])=false:=rfl;have e:Xw (c::r)=((c::r).all (chB [95])&&decide ((c::r).length≤40)&&(decide (97≤c.toNat)&&decide (c.toNat≤122))):=rfl;have q:Zx .i64 ((c.toNat:Int))=(c.toNat:Int):=Zq (by omega) (by have:=c.toNat_lt;omega);have f:=YJ (c.toNat:Int) 97 122;have g:ZY (c.toNat:Int) 97 122=(decide (97≤c.toNat)&&decide (c.toNat≤122)):=by unfold ZY;rw[UE];simp;omega
  rw[g]at f;rw[e];generalize(c::r).all (chB [95])=x at b ⊢;have u:(37≤Xa)=True:=V5 (by decide);rw[Zqu];simp only[go_sem,simprocAttr,f62,d,b,o,f,q,p,u]
  repeat' ((first|apply ZG|apply ZK|apply ZT)<;>intro v<;>simp only[v,go_sem,simprocAttr,d,b,o,f,q,p,u])
  ·rename_i y;simp only[VK]at y;have k:r.length≤39:=by omega
   simp[k]
  simp only[Sr]at v;have k:¬r.length≤39:=by omega
  simp[k]
theorem ZjZ(s b:List UInt8):(Op.bytesLess s b||s==b)=decide (Op.bytesLess s b=true∨s=b):=by rw[UE];simp
theorem ZfW(s b:List UInt8)(first:Bool)(hs:s.length≤100000000):R K (.call 44 [.str s,.str b,.bool first] [])=some (I (Q9 s b first),[]):=by
 have c:=Zhd s hs;unfold Q9;generalize Xw s=x at c ⊢;have d:=ZjZ s b;rw[ZyX];simp only[go_sem,simprocAttr,f44,c,d]
 repeat' ((first|apply ZG|apply ZK|apply ZT)<;>intro e<;>simp only[e,go_sem,simprocAttr,c,d])
 all_goals simp_all
theorem Zcy(s b:List UInt8)(i:Nat)(f:AV)(h:Za)(hs:s.length≤100000000)(g:Zi h.length (Zk h)=true)(c:0<i→ZU nlA (R K) h [] f=some (.str b,h)):R K (.call 186 [.str s,I (i:Int),f] h)=some (I (Q9 s b (i==0)),h):=by
 have e:=Zof s hs;unfold Q9;generalize Xw s=x at e ⊢;have k:=ZjZ s b;cases i with
 |zero =>
  have d:((0:Nat):Int)=0:=rfl;rw[Zou];simp only[go_sem,simprocAttr,f186,e,g,d]
  repeat' ((first|apply ZG|apply ZK|apply ZT)<;>intro c<;>simp only[c,go_sem,simprocAttr,e,g,d])
  all_goals simp_all
 |succ i =>
  have o:=c (by omega);have d:(0:Int)<((i+1:Nat):Int):=by omega
  have p:(((i+1:Nat):Int)>0)=True:=V5 d;rw[Zou];simp only[go_sem,simprocAttr,f186,e,g,o,k,d]
  repeat' ((first|apply ZG|apply ZK|apply ZT)<;>intro c<;>simp only[c,go_sem,simprocAttr,e,g,o,k,d])
  all_goals simp_all
abbrev Jy(c:Col):AV:=.agg (Zh c)
abbrev Yk(t:Tbl):AV:=.agg (Zc t)
theorem Ym{l:List Col}{c:Col}(h:l[j]?=some c):at? (l.map Zh) (j:Int)=some (Zh c):=ZW (by simp[h])
theorem YF{l:List Tbl}{c:Tbl}(h:l[j]?=some c):at? (l.map Zc) (j:Int)=some (Zc c):=ZW (by simp[h])
theorem Zrf(f:AV)(h:Za)(n:List UInt8)(p:Zi h.length (Zk h)=true)(cols:List Col)(A:cols.length≤1000000)(y:∀c:Col,ZU nlA (R K) h [Jy c] f=some (.bool (c.nm==n),h))(ks:List It):
  ∀(q j:Nat) (i:Int) (e:Code),YP f14 0 e→i=(j:Int)→cols.length=j+q →
  RL K (.run 14 h.length (.code e::.lp e (some ([0,1,7,8],[])) h.length::.blk 0 h.length::ks) [(0,.rows (cols.map Zh)),(1,f),(7,I (cols.length:Int)),(8,I i)] h) =
  if ixN n ((cols.drop j).map (·.nm)) j=-1 then R K (.run 14 h.length ks [] h)else some (I (ixN n ((cols.drop j).map (·.nm)) j),h)
 |0,j,i,e,b,hi,C=>by
  subst hi;have d:¬(j:Int)<(cols.length:Int):=by omega
  rw[V2 (by omega),VO,show ixN n [] j=-1 from rfl,Vr rfl];simp only[go_sem,simprocAttr,f14]at b;subst b;rw[Ze];simp only[go_sem,simprocAttr,d]
 |q+1,j,i,e,b,hi,C=>by
  subst hi;have r:=b;have d:(j:Int)<(cols.length:Int):=by omega
  have D:Zx .i64 ((j:Int)+1)=((j+1:Nat):Int):=by rw[Zq (by omega) (by omega)];omega
  obtain⟨c,g⟩:∃c,cols[j]?=some c:=⟨cols[j]'(by omega),VB _⟩;have u:=Ym g;have k:=y c;have E:=Zrf f h n p cols A y ks q (j+1) _ e r rfl (by omega);rw[Y8 g,Vz];simp only[Jy,Zh]at u k;by_cases o:c.nm=n
  ·have v:ixN n (c.nm::(cols.drop (j+1)).map (·.nm)) j=(j:Int):=by simp only[ixN];rw[Vr o]
   have w:(c.nm==n)=true:=by simpa using o
   rw[w]at k;rw[v,Vm (by omega)];simp only[go_sem,simprocAttr,f14]at b;subst b;rw[Ze];simp only[go_sem,simprocAttr,d,u,k,p]
  have v:ixN n (c.nm::(cols.drop (j+1)).map (·.nm)) j=ixN n ((cols.drop (j+1)).map (·.nm)) (j+1):=by conv=>lhs;simp only[ixN];rw[Vm o]
  have w:(c.nm==n)=false:=by simpa using o
  rw[w]at k;rw[v];simp only[go_sem,simprocAttr,f14]at b;subst b;rw[Ze];simp only[go_sem,simprocAttr,d,D,u,k,p];rw[E]
theorem Ze1(f:AV)(h:Za)(n:List UInt8)(b:Zi h.length (Zk h)=true)(cols:List Col)(e:cols.length≤1000000)(g:∀c:Col,ZU nlA (R K) h [Jy c] f=some (.bool (c.nm==n),h)):
  R K (.call 14 [.rows (cols.map Zh),f] h)=some (I (ixN n (cols.map (·.nm)) 0),h):=by
 have d:=fun ks B k=>Zrf f h n b cols e g ks cols.length 0 0 B k rfl (by omega);simp only[Ui]at d;rw[ZxD];simp only[go_sem,simprocAttr,f14,Vd];rw[d _ _ ?_]
 ·split
  ·rename_i o;rw[o];simp only[go_sem,simprocAttr,b]
  rfl
 rfl
theorem Zq4(f:AV)(h:Za)(n:List UInt8)(p:Zi h.length (Zk h)=true)(cols:List Tbl)(A:cols.length≤1000000)(y:∀c:Tbl,ZU nlA (R K) h [Yk c] f=some (.bool (c.nm==n),h))(ks:List It):
  ∀(q j:Nat) (i:Int) (e:Code),YP f42 0 e→i=(j:Int)→cols.length=j+q →
  RL K (.run 42 h.length (.code e::.lp e (some ([0,1,7,8],[])) h.length::.blk 0 h.length::ks) [(0,.rows (cols.map Zc)),(1,f),(7,I (cols.length:Int)),(8,I i)] h) =
  if ixN n ((cols.drop j).map (·.nm)) j=-1 then R K (.run 42 h.length ks [] h)else some (I (ixN n ((cols.drop j).map (·.nm)) j),h)
 |0,j,i,e,b,hi,C=>by
  subst hi;have d:¬(j:Int)<(cols.length:Int):=by omega
  rw[V2 (by omega),VO,show ixN n [] j=-1 from rfl,Vr rfl];simp only[go_sem,simprocAttr,f42]at b;subst b;rw[Ze];simp only[go_sem,simprocAttr,d]
 |q+1,j,i,e,b,hi,C=>by
  subst hi;have r:=b;have d:(j:Int)<(cols.length:Int):=by omega
  have D:Zx .i64 ((j:Int)+1)=((j+1:Nat):Int):=by rw[Zq (by omega) (by omega)];omega
  obtain⟨c,g⟩:∃c,cols[j]?=some c:=⟨cols[j]'(by omega),VB _⟩;have u:=YF g;have k:=y c;have E:=Zq4 f h n p cols A y ks q (j+1) _ e r rfl (by omega);rw[Y8 g,Vz];simp only[Yk,Zc]at u k;by_cases o:c.nm=n
  ·have v:ixN n (c.nm::(cols.drop (j+1)).map (·.nm)) j=(j:Int):=by simp only[ixN];rw[Vr o]
   have w:(c.nm==n)=true:=by simpa using o
   rw[w]at k;rw[v,Vm (by omega)];simp only[go_sem,simprocAttr,f42]at b;subst b;rw[Ze];simp only[go_sem,simprocAttr,d,u,k,p]
  have v:ixN n (c.nm::(cols.drop (j+1)).map (·.nm)) j=ixN n ((cols.drop (j+1)).map (·.nm)) (j+1):=by conv=>lhs;simp only[ixN];rw[Vm o]
  have w:(c.nm==n)=false:=by simpa using o
  rw[w]at k;rw[v];simp only[go_sem,simprocAttr,f42]at b;subst b;rw[Ze];simp only[go_sem,simprocAttr,d,D,u,k,p];rw[E]
theorem Zhi(f:AV)(h:Za)(n:List UInt8)(b:Zi h.length (Zk h)=true)(cols:List Tbl)(e:cols.length≤1000000)(g:∀c:Tbl,ZU nlA (R K) h [Yk c] f=some (.bool (c.nm==n),h)):
  R K (.call 42 [.rows (cols.map Zc),f] h)=some (I (ixN n (cols.map (·.nm)) 0),h):=by
 have d:=fun ks B k=>Zq4 f h n b cols e g ks cols.length 0 0 B k rfl (by omega);simp only[Ui]at d;rw[Zrh];simp only[go_sem,simprocAttr,f42,Vd];rw[d _ _ ?_]
 ·split
  ·rename_i o;rw[o];simp only[go_sem,simprocAttr,b]
  rfl
 rfl
abbrev nmH(n:List UInt8):Za:=[.cells [.str n]]
theorem ZuT(n:List UInt8)(c:Col):R K (.call 288 [Jy c,.ptr 0 0] (nmH n))=some (.bool (c.nm==n),nmH n):=by rw[ZvY];simp only[go_sem,simprocAttr,f288,Zh]
theorem Zr4(n:List UInt8)(c:Col):R K (.call 100 [Jy c,.ptr 0 0] (nmH n))=some (.bool (c.nm==n),nmH n):=by rw[ZvJ];simp only[go_sem,simprocAttr,f100,Zh]
theorem Zxt(n:List UInt8)(t:Tbl):R K (.call 287 [Yk t,.ptr 0 0] (nmH n))=some (.bool (t.nm==n),nmH n):=by rw[Zup];simp only[go_sem,simprocAttr,f287,Zc]
theorem Zw4(n:List UInt8)(c:Col):ZU nlA (R K) (nmH n) [Jy c] (.fn 288 [.ptr 0 0])=some (.bool (c.nm==n),nmH n):=by have b:=ZuT n c;simp only[Jy,Zh]at b ⊢;simp only[go_sem,simprocAttr,b]
theorem ZsV(n:List UInt8)(c:Col):ZU nlA (R K) (nmH n) [Jy c] (.fn 100 [.ptr 0 0])=some (.bool (c.nm==n),nmH n):=by have b:=Zr4 n c;simp only[Jy,Zh]at b ⊢;simp only[go_sem,simprocAttr,b]
theorem Zxa(n:List UInt8)(t:Tbl):R K (.call 43 [Yk t,.ptr 0 0] (nmH n))=some (.bool (t.nm==n),nmH n):=by rw[Zzq];simp only[go_sem,simprocAttr,f43,Zc]
theorem ZyF(n:List UInt8)(t:Tbl):ZU nlA (R K) (nmH n) [Yk t] (.fn 287 [.ptr 0 0])=some (.bool (t.nm==n),nmH n):=by have b:=Zxt n t;simp only[Yk,Zc]at b ⊢;simp only[go_sem,simprocAttr,b]
theorem Zts(n:List UInt8)(t:Tbl):ZU nlA (R K) (nmH n) [Yk t] (.fn 43 [.ptr 0 0])=some (.bool (t.nm==n),nmH n):=by have b:=Zxa n t;simp only[Yk,Zc]at b ⊢;simp only[go_sem,simprocAttr,b]
theorem QE(n:List UInt8):Zi (nmH n).length (Zk (nmH n))=true:=rfl
theorem ZbT(t:Tbl)(n:List UInt8)(b:t.cols.length≤1000000):R K (.call 202 [Yk t,.str n] [])=some (I (ixN n (t.cols.map (·.nm)) 0),[]):=by have hi:=Ze1 (.fn 288 [.ptr 0 0]) (nmH n) n (QE n) t.cols b (Zw4 n);rw[Zwu];simp only[go_sem,simprocAttr,f202,Zc,hi]
theorem Y9(t:Tbl)(n:List UInt8)(b:t.cols.length≤1000000):R K (.call 46 [Yk t,.str n] [])=some (I (ixN n (t.cols.map (·.nm)) 0),[]):=by have hi:=Ze1 (.fn 100 [.ptr 0 0]) (nmH n) n (QE n) t.cols b (ZsV n);rw[Zy8];simp only[go_sem,simprocAttr,f46,Zc,hi]
theorem ZrB(x:List Tbl)(n:List UInt8)(b:x.length≤1000000):R K (.call 200 [ZX x,.str n] [])=some (I (ixN n (x.map (·.nm)) 0),[]):=by have hi:=Zhi (.fn 287 [.ptr 0 0]) (nmH n) n (QE n) x b (ZyF n);rw[Ztb];simp only[go_sem,simprocAttr,f200,hi]
theorem YT(x:List Tbl)(n:List UInt8)(b:x.length≤1000000):R K (.call 18 [ZX x,.str n] [])=some (I (ixN n (x.map (·.nm)) 0),[]):=by have hi:=Zhi (.fn 43 [.ptr 0 0]) (nmH n) n (QE n) x b (Zts n);rw[ZyN];simp only[go_sem,simprocAttr,f18,hi]
abbrev V(k n:Int)(s:List UInt8):AV:=.agg [.int .i64 k,.int .i64 n,.str s]
theorem ZQ(h:i<n)(b:n≤9223372036854775807):Zx .i64 ((i:Int)+1)=((i+1:Nat):Int):=by rw[Zq (by omega) (by omega)];rfl
theorem Zu{l:List α}(h:i<l.length):∃x,l[i]?=some x:=⟨l[i],VB h⟩
theorem Xe(n a b:Int):R K (.call 300 [.int .i64 n,.int .i64 a,.int .i64 b] [])=some (.bool (ZY n a b),[]):=by
 rw[Ztk];simp only[go_sem,simprocAttr,f300]
 repeat' ((first|apply ZG|apply ZK|apply ZT)<;>intro c<;>simp only[c,go_sem,simprocAttr])
 all_goals simp[ZY, *]
theorem ZrY(n a b:Int):R K (.call 285 [.int .i64 n,.int .i64 a,.int .i64 b] [])=some (.bool (ZY n a b),[]):=by
 rw[Zt2];simp only[go_sem,simprocAttr,f285]
 repeat' ((first|apply ZG|apply ZK|apply ZT)<;>intro c<;>simp only[c,go_sem,simprocAttr])
 all_goals simp[ZY, *]
def Jv(v:Val):Bool:=if v.k=0 then v.n==0&&v.s==[]else if v.k=3 then v.n==0 else ZY v.k 1 4&&v.s==[]
theorem Zcu(k n:Int)(s:List UInt8):R K (.call 301 [V k n s] [])=some (.bool (Jv ⟨k,n,s⟩),[]):=by
 rw[Zwn];simp only[go_sem,simprocAttr,f301,Xe]
 repeat' ((first|apply ZG|apply ZK|apply ZT)<;>intro b<;>simp only[b,go_sem,simprocAttr,Xe])
 all_goals simp_all[Jv]
def ok7(s:List UInt8):Bool:=s.all fun c=>decide (32≤c.toNat)&&decide (c.toNat≤126)
theorem Zbo(b:UInt8)(s:List UInt8):ok7 (b::s)=(decide (32≤b.toNat)&&decide (b.toNat≤126)&&ok7 s):=by simp[ok7]
theorem Zqh(k n:Int)(s:List UInt8)(hs:s.length≤100)(ks:List It):∀(m i:Nat) (j:Int) (B:Code),YP f302 1 B→j=(i:Int)→s.length=i+m →
  RL K (.run 302 0 (.code B::.lp B (some ([1,23,24],[])) 1::.blk 1 1::ks) [(1,.ptr 0 0),(23,.int .i64 s.length),(24,.int .i64 j)] [.cells [.int .i64 k,.int .i64 n,.str s]]) =
  if ok7 (s.drop i)=true then R K (.run 302 0 ks [] [.cells [.int .i64 k,.int .i64 n,.str s]])else some (.bool false,[])
 |0,i,j,B,c,e,p=>by
  subst e;have d:¬((i:Int)<(s.length:Int)):=by omega
  simp only[go_sem,simprocAttr,f302]at c;subst c;rw[Ze];simp only[go_sem,simprocAttr,d];rw[V2 (by omega)];rfl
 |m+1,i,j,B,c,e,p=>by
  subst e;have d:((i:Int)<(s.length:Int)):=by omega
  have f:=c;obtain⟨b,g⟩:∃b,s[i]?=some b:=⟨s[i]'(by omega),VB _⟩;have h:=WO g;have o:Zx .i64 ((i:Int)+1)=((i+1:Nat):Int):=by rw[Zq (by omega) (by omega)];rfl
  simp only[go_sem,simprocAttr,f302]at c;subst c;rw[Ze];rw[Y8 g];have q:=Zqh k n s hs ks m (i+1) _ _ f rfl (by omega);simp only[go_sem,simprocAttr,d,h,o]
  repeat' ((first|apply ZG|apply ZK|apply ZT)<;>intro r<;>simp only[r,go_sem,simprocAttr,d,h,o])
  all_goals simp only[VK,Sr]at *
  ·have:ok7 (b::s.drop (i+1))=false:=by simp[Zbo];omega
   simp[this]
  ·have:ok7 (b::s.drop (i+1))=false:=by simp[Zbo];omega
   simp[this]
  have:ok7 (b::s.drop (i+1))=ok7 (s.drop (i+1)):=by
   have:32≤b.toNat∧b.toNat≤126:=by omega
   simp[Zbo,this]
  rw[this,q]
def WC(v:Val):Bool:=if v.k=1 then ZY v.n 0 1 else if v.k=2 then ZY v.n (-999999999999999) 999999999999999 else if v.k=4 then ZY v.n 0 253402300799 else ok7 v.s
theorem Zhb(k n:Int)(s:List UInt8)(hs:s.length≤100):R K (.call 302 [V k n s] [])=some (.bool (WC ⟨k,n,s⟩),[]):=by
 rw[ZwX];simp only[go_sem,simprocAttr,f302,Xe]
 repeat' ((first|apply ZG|apply ZK|apply ZT)<;>intro b<;>simp only[b,go_sem,simprocAttr,Xe])
 ·simp_all[WC]
 ·simp_all[WC]
 ·simp_all[WC]
 rw[Zqh k n s hs _ s.length 0 0 _ ?_ rfl (by omega),Ui]
 ·split
  ·simp only[go_sem,simprocAttr];simp_all[WC]
  simp_all[WC]
 rfl
theorem Ze0:∀(s:List UInt8) (i:Nat) (b:UInt8),s[i]?=some b→(Ya s)[i]?=some [.int .u8 (b.toNat:Int)]
 |[],i,b,h=>by simp at h
 |c::r,0,b,h=>by simp at h;subst h;rfl
 |c::r,i+1,b,h=>by simpa[Ya]using Ze0 r i b (by simpa using h)
theorem ZmE(s:List UInt8)(hs:s.length≤100)(ks:List It):∀(m i:Nat) (j:Int) (B:Code),YP f280 0 B→j=(i:Int)→s.length=i+m →
  RL K (.run 280 0 (.code B::.lp B (some ([6,7,8],[])) 0::.blk 0 0::ks) [(6,.rows (Ya s)),(7,.int .i64 s.length),(8,.int .i64 j)] []) =
  if ok7 (s.drop i)=true then R K (.run 280 0 ks [] [])else some (.bool false,[])
 |0,i,j,B,c,e,o=>by
  subst e;have d:¬((i:Int)<(s.length:Int)):=by omega
  simp only[go_sem,simprocAttr,f280]at c;subst c;rw[Ze];simp only[go_sem,simprocAttr,d];rw[V2 (by omega)];rfl
 |m+1,i,j,B,c,e,o=>by
  subst e;have d:((i:Int)<(s.length:Int)):=by omega
  have f:=c;obtain⟨b,g⟩:=Zu (l:=s) (i:=i) (by omega);have h:=ZW (Ze0 s i b g);have k:=ZQ (i:=i) (n:=s.length) (by omega) (by omega);simp only[go_sem,simprocAttr,f280]at c;subst c;rw[Ze];rw[Y8 g];have p:=ZmE s hs ks m (i+1) _ _ f rfl (by omega);simp only[go_sem,simprocAttr,d,h,k]
  repeat' ((first|apply ZG|apply ZK|apply ZT)<;>intro q<;>simp only[q,go_sem,simprocAttr,d,h,k])
  all_goals simp only[VK,Sr]at *
  ·have:ok7 (b::s.drop (i+1))=false:=by simp[Zbo];omega
   simp[this]
  ·have:ok7 (b::s.drop (i+1))=false:=by simp[Zbo];omega
   simp[this]
  have:ok7 (b::s.drop (i+1))=ok7 (s.drop (i+1)):=by
   have:32≤b.toNat∧b.toNat≤126:=by omega
   simp[Zbo,this]
  rw[this,p]
theorem ZqJ(s:List UInt8)(hs:s.length≤100):R K (.call 280 [.str s] [])=some (.bool (ok7 s),[]):=by
 rw[Zto];simp only[go_sem,simprocAttr,f280,JX];rw[ZmE s hs _ s.length 0 0 _ ?_ rfl (by omega),Ui]
 ·split
  ·simp only[go_sem,simprocAttr];simp_all
  simp_all
 rfl
def QA(kd:Int)(v:Val):Int :=
 if ZY kd 1 4=false then 4 else if Jv v=false then 3 else if v.k≠0∧v.k≠kd then 8 else if 100<v.s.length then 2 else if WC v=false then 1 else 0
theorem Zlg(kd k n:Int)(s:List UInt8):R K (.call 217 [I kd,V k n s] [])=some (I (QA kd ⟨k,n,s⟩),[]):=by
 by_cases hs:s.length≤100
 ·have b:¬(100<(s.length:Int)):=by omega
  have c:¬(100<s.length):=by omega
  rw[ZoG];simp only[go_sem,simprocAttr,f217,Xe,Zcu,Zhb k n s hs,b]
  repeat' ((first|apply ZG|apply ZK|apply ZT)<;>intro d<;>simp only[d,go_sem,simprocAttr,Xe,Zcu,Zhb k n s hs,b])
  all_goals simp_all[QA]
 have b:(100<(s.length:Int)):=by omega
 have c:(100<s.length):=by omega
 rw[ZoG];simp only[go_sem,simprocAttr,f217,Xe,Zcu,b]
 repeat' ((first|apply ZG|apply ZK|apply ZT)<;>intro d<;>simp only[d,go_sem,simprocAttr,Xe,Zcu,b])
 all_goals simp_all[QA]
def Zc8(kd:Int)(v:Val):Int :=
 if !(ZY v.k 0 4)||(v.k != 3&&v.s != [])||((v.k==3||v.k==0)&&v.n != 0)then 3
 else if kd≠0∧v.k≠0∧v.k≠kd then 8
 else if 100<v.s.length then 2
 else if !(ok7 v.s)||(v.k==1&&!(ZY v.n 0 1))||(v.k==2&&!(ZY v.n (-999999999999999) 999999999999999))||(v.k==4&&!(ZY v.n 0 253402300799))then 1
 else 0
set_option maxHeartbeats 4000000 in
theorem Zqt(kd k n:Int)(s:List UInt8):R K (.call 180 [I kd,V k n s] [])=some (I (Zc8 kd ⟨k,n,s⟩),[]):=by
 by_cases hs:s.length≤100
 ·have b:¬(100<(s.length:Int)):=by omega
  have c:¬(100<s.length):=by omega
  rw[Znc];simp only[go_sem,simprocAttr,f180,YJ,ZqJ s hs,b]
  repeat' ((first|apply ZG|apply ZK|apply ZT)<;>intro d<;>simp only[d,go_sem,simprocAttr,YJ,ZqJ s hs,b])
  all_goals simp_all[Zc8]
 have b:(100<(s.length:Int)):=by omega
 have c:(100<s.length):=by omega
 rw[Znc];simp only[go_sem,simprocAttr,f180,YJ,b]
 repeat' ((first|apply ZG|apply ZK|apply ZT)<;>intro d<;>simp only[d,go_sem,simprocAttr,YJ,b])
 all_goals simp_all[Zc8]
theorem ZsM(kd:Int)(v:Val)(c:ZY kd 1 4=true):Zc8 kd v=QA kd v:=by
 obtain⟨k,n,s⟩:=v;by_cases b:ZY k 0 4=true
 ·have d:k=0∨k=1∨k=2∨k=3∨k=4:=by simp only[ZY,VA,VK]at b;omega
  rcases d with rfl|rfl|rfl|rfl|rfl<;>by_cases hs:s=[]<;>(try subst hs)<;>simp_all[Zc8,QA,Jv,WC,ZY,ok7]
  all_goals (rcases(show kd=1∨kd=2∨kd=3∨kd=4 by omega)with rfl|rfl|rfl|rfl<;>simp)
  all_goals (split<;>split<;>first|rfl|omega)
 have e:Jv ⟨k,n,s⟩=false:=by
  simp only[ZY,VA,VK]at b;have f:¬k=0:=by omega
  have g:¬k=3:=by omega
  have h:ZY k 1 4=false:=by rw[←U2];simp only[ZY,VA,VK];omega
  simp[Jv,f,g,h]
 rw[U2]at b;simp[Zc8,QA,b,c,e]
theorem Ze4(kd k n:Int)(s:List UInt8):R K (.call 98 [I kd,V k n s] [])=some (I (QA kd ⟨k,n,s⟩),[]):=by
 cases b:ZY kd 1 4 with
 |false =>
  rw[Zqy];simp only[go_sem,simprocAttr,f98,YJ,b];simp[QA,b]
 |true =>
  have c:=Zqt kd k n s;rw[ZsM kd _ b]at c;rw[Zqy];simp only[go_sem,simprocAttr,f98,YJ,b,c]
theorem tm(a b:Int)(h:0≤a):a.tmod b=a%b:=Int.tmod_eq_emod_of_nonneg h
theorem td(a b:Int)(h:0≤a):a.tdiv b=a/b:=Int.tdiv_eq_ediv_of_nonneg h
def JI(x n:Int):Int:=if n<1 then 0 else if x.tmod n<0 then Zx .i64 (x.tmod n+n)else x.tmod n
theorem Zq5(x n:Int):R K (.call 40 [.int .i64 x,.int .i64 n] [])=some (.int .i64 (JI x n),[]):=by
 by_cases b:n<1
 ·have c:decide (n<1)=true:=by simp[b]
  rw[ZqK];simp only[go_sem,simprocAttr,f40,c];simp[JI,b]
 have c:decide (n<1)=false:=by simpa using b
 have h2:n≠0:=by omega
 have e:JI x n=if x.tmod n<0 then Zx .i64 (x.tmod n+n)else x.tmod n:=Vm b;rw[e];rw[ZqK];simp only[go_sem,simprocAttr,f40,c,h2]
 repeat' ((first|apply ZG|apply ZK|apply ZT)<;>intro d<;>simp only[d,go_sem,simprocAttr,c,h2])
 all_goals simp_all
 intro;omega
theorem ZlQ(x n:Int)(c:1≤n)(h2:n≤4611686018427387904):0≤JI x n∧JI x n<n:=by
 unfold JI;rw[Vm (by omega)];have a:=Int.tmod_lt_of_pos x (show 0<n by omega);have b:-n<x.tmod n:=by have:=Int.tmod_lt_of_pos (-x) (show 0<n by omega);rw[Int.neg_tmod]at this;omega
 split
 ·rw[Zq (by omega) (by omega)];omega
 omega
def ZS(L:List Int)(a n:Int):Int :=
 if L.length=0 then JI (Zx .i64 ((a+1)*7919)) n
 else JI (Zx .i64 (JI (L.getD (a%L.length).toNat 0) 1073741824+Zx .i64 (a/L.length*(7919+a%L.length)))) n
abbrev LR(L:List Int):AV:=.rows (L.map fun x=>[.int .i64 x])
theorem ZAS(L:List Int)(a n:Int)(b:0≤a)(o:a≤4611686018427387904)(C:L.length≤9223372036854775807):R K (.call 13 [.ptr 0 0,.int .i64 n] [.cells [LR L,.int .i64 a]])=some (.int .i64 (ZS L a n),[.cells [LR L,.int .i64 (a+1)]]):=by
 have f:Zx .i64 (a+1)=a+1:=Zq (by omega) (by omega);have p:Zx .i64 (a+1-1)=a:=by rw[Zq (by omega) (by omega)];omega
 have g:(L.map fun x=>[AV.int .i64 x]).length=L.length:=Vd _;by_cases h:L.length=0
 ·have D:decide (((L.length:Nat):Int)=0)=true:=by simp[h]
  have c:(((L.length:Nat):Int)==0)=true:=by simp[h]
  have e:ZS L a n=JI (Zx .i64 ((a+1)*7919)) n:=Vr h;rw[e];rw[Zqn];simp only[go_sem,simprocAttr,f13,f,c,g,Zq5]
 have c:(((L.length:Nat):Int)==0)=false:=by simpa using h
 have q:(1:Int)≤L.length:=by omega
 have r:a.tmod (L.length:Int)=a%L.length:=tm _ _ b;have u:Zx .i64 (a.tdiv (L.length:Int))=a/L.length:=by rw[td _ _ b];have:=Int.ediv_le_self (L.length:Int) b;have:=Int.ediv_nonneg b (show(0:Int)≤L.length by omega);exact Zq (by omega) (by omega)
 have v:=Int.emod_nonneg a (show(L.length:Int)≠0 by omega);have E:=Int.emod_lt_of_pos a (show(0:Int)<L.length by omega);have F:a%(L.length:Int)≤a:=by rw[Int.emod_def];exact Int.sub_le_self a (Int.mul_nonneg (by omega) (Int.ediv_nonneg b (by omega)))
 obtain⟨x,k⟩:=Zu (l:=L) (i:=(a%L.length).toNat) (by omega);have w:at? (L.map fun x=>[AV.int .i64 x]) (a%L.length)=some [.int .i64 x]:=by unfold at?;rw[Vr v];simp[k]
 have y:Zx .i64 (7919+a%L.length)=7919+a%L.length:=Zq (by omega) (by omega);have A:L.getD (a%L.length).toNat 0=x:=by simp[List.getD,k]
 have d:((L.length:Nat):Int)≠0:=by omega
 have e:ZS L a n=JI (Zx .i64 (JI x 1073741824+Zx .i64 (a/L.length*(7919+a%L.length)))) n:=by unfold ZS;rw[Vm h,A]
 rw[e];rw[Zqn];simp only[go_sem,simprocAttr,f13,f,p,r,u,w,y,c,d,g,Zq5]
theorem ZD(L:List Int)(a n:Int)(b:1≤n)(h2:n≤4611686018427387904):0≤ZS L a n∧ZS L a n<n:=by unfold ZS;split<;>exact ZlQ _ _ b h2
theorem ZeU(s:List UInt8)(c:Nat)(h:c≤1000)(hs:s.length≤1000):R K (.call 49 [.str s,I (c:Int)] [])=some (.str (Lib.repeatL s c),[]) :=
 Qn (by show Zfr [.str s,I (c:Int)]=_;simp only[Zfr];have:s.length*c≤1000*1000:=Pi hs h;rw[Vr (by simp only[VA,VK,Vk];omega),Vk])
abbrev St(L:List Int)(a:Int):Za:=[.cells [LR L,I a]]
structure Gd(L:List Int)(a B:Int):Prop where
 pos:0≤a
 top:a+B≤4611686018427387904
 len:L.length≤9223372036854775807
theorem Gd.step{L:List Int}{a B:Int}(h:Gd L a B)(a' B':Int)(b:a≤a')(h2:a'+B'≤a+B):Gd L a' B':=⟨by have:=h.pos;omega,by have:=h.top;omega,h.len⟩
section
variable{L:List Int}{a B:Int}
theorem Yb(h:Gd L a B)(c:1≤B)(n:Int):R K (.call 13 [.ptr 0 0,I n] (St L a))=some (I (ZS L a n),St L (a+1)):=by have b:=h.pos;have h2:=h.top;exact ZAS L a n b (by omega) h.len
def Jq(L:List Int)(a lo hi:Int):Int:=lo+ZS L a (hi-lo+1)
theorem Wd(L:List Int)(a lo hi:Int)(b:lo≤hi)(h2:hi-lo≤4611686018427387000):lo≤Jq L a lo hi∧Jq L a lo hi≤hi:=by have:=ZD L a (hi-lo+1) (by omega) (by omega);unfold Jq;omega
theorem WU(h:Gd L a B)(b:1≤B)(lo hi:Int)(c:lo≤hi)(h2:-1152921504606846976≤lo)(h3:hi≤1152921504606846976):R K (.call 11 [.ptr 0 0,I lo,I hi] (St L a))=some (I (Jq L a lo hi),St L (a+1)):=by
 have d:=Yb h b (hi-lo+1);have e:=Wd L a lo hi c (by omega);have f:decide (hi<lo)=false:=Pf (by omega);have w1:Zx .i64 (hi-lo)=hi-lo:=Zq (by omega) (by omega);have w2:Zx .i64 (hi-lo+1)=hi-lo+1:=Zq (by omega) (by omega);have g:Zx .i64 (lo+ZS L a (hi-lo+1))=Jq L a lo hi:=by unfold Jq at e ⊢;exact Zq (by omega) (by omega)
 rw[Zxs];simp only[go_sem,simprocAttr,f11,d,f,w1,w2,g]
theorem Xk(h:Gd L a B)(b:1≤B)(n:Int):R K (.call 5 [.ptr 0 0,I n] (St L a))=some (.bool (ZS L a n==0),St L (a+1)):=by have c:=Yb h b n;rw[ZAW];simp only[go_sem,simprocAttr,f5,c]
theorem ZA1{l:List Int}{i:Int}(h:0≤i∧i<(l.length:Int)):∃x∈l,at? (l.map fun x=>[I x]) i=some [I x]:=by obtain⟨x,b⟩:=Zu (l:=l) (i:=i.toNat) (by omega);refine⟨x,Ve b,?_⟩;unfold at?;rw[Vr h.1];simp[b]
theorem ZdU(h:Gd L a B)(b:1≤B)(l:List Int)(k:1≤l.length)(c:l.length≤1000):∃x∈l,R K (.call 39 [.ptr 0 0,.rows (l.map fun x=>[I x])] (St L a))=some (I x,St L (a+1)):=by have d:=Yb h b (l.length:Int);have e:=ZD L a (l.length:Int) (by omega) (by omega);obtain⟨x,f,g⟩:=ZA1 (l:=l) e;refine⟨x,f,?_⟩;rw[Zyr];simp only[go_sem,simprocAttr,f39,d,g]
theorem ZzF(h:Gd L a B)(o:2≤B):∃n a',R K (.call 47 [.ptr 0 0] (St L a))=some (I n,St L a')∧a≤a'∧a'≤a+2:=by
 have b:=Yb h (by omega) 10;have c:=h.step (a+1) (B-1) (by omega) (by omega);by_cases e:ZS L a 10=0
 ·obtain⟨x,_,p⟩:=ZdU c (by omega) [999999999999999,-999999999999999,1000000000000000,-1000000000000000,4611686018427387904,-9223372036854775808,9223372036854775807,253402300799,253402300800] (by decide) (by decide);simp only[List.map]at p;refine⟨x,a+1+1,?_,by omega,by omega⟩;rw[ZkY];simp only[go_sem,simprocAttr,f47,b,e,p]
 have g:(ZS L a 10==0)=false:=by simpa using e
 by_cases f:ZS L a 10=1
 ·have d:=WU c (by omega) (-1000000) 1000000 (by omega) (by omega) (by omega);refine⟨Jq L (a+1) (-1000000) 1000000,a+1+1,?_,by omega,by omega⟩;rw[ZkY];simp only[go_sem,simprocAttr,f47,b,f,d]
 have k:(ZS L a 10==1)=false:=by simpa using f
 have d:=WU c (by omega) (-6) 12 (by omega) (by omega) (by omega);refine⟨Jq L (a+1) (-6) 12,a+1+1,?_,by omega,by omega⟩;rw[ZkY];simp only[go_sem,simprocAttr,f47,b,g,k,d]
theorem ZdZ{i:Int}(h:0≤i∧i<(l.length:Int)):∃x∈l,at? (l.map fun x=>[AV.str x]) i=some [.str x]:=by obtain⟨x,b⟩:=Zu (l:=l) (i:=i.toNat) (by omega);refine⟨x,Ve b,?_⟩;unfold at?;rw[Vr h.1];simp[b]
def pcs:List (List UInt8):=[[97],[98],[97,98],[],[65],[37],[95],[92],[39],[32],[48],[49,50],[45,51],[116,114,117,101],[120,44,121],[40],[50,48,48,48,45,48,50,45,50,57,84,48,48,58,48,48,58,48,48]]
theorem Zyw:∀x∈pcs,x.length≤19:=by decide
theorem ZAH:∀x∈pcs,x.count 41=0:=by decide
theorem ZpA(s:List UInt8)(h:s.count 41=0):∀n:Nat,(Lib.repeatL s n).count 41=0
 |0=>by simp[Lib.repeatL]
 |n+1=>by have:=ZpA s h n;simp only[Lib.repeatL]at this ⊢;simp[PI,h,this]
theorem ZwM(c:Nat)(o:c≤100)(ks:List It):∀(m j:Nat) (i:Int) (t:List UInt8) (a B:Int) (b:Code),YP f48 0 b→Gd L a B→m≤B→i=(j:Int)→c=j+m→t.length≤19*j→t.count 41=0 →
  ∃(t':List UInt8) (a':Int),a≤a'∧a'≤a+m∧(t'.length≤19*c∧t'.count 41=0) ∧
  RL K (.run 48 1 (.code b::.lp b (some ([0,3,4,18,19],[])) 1::.blk 0 1::ks) [(0,.ptr 0 0),(3,.lit (pcs.map fun x=>[.str x])),(4,.str t),(18,I (c:Int)),(19,I i)] (St L a)) =
  R K (.run 48 1 ks [(4,.str t')] (St L a'))
 |0,j,i,t,a,B,b,d,e,p,hi,q,r,f=>by subst hi;have g:decide ((j:Int)<(c:Int))=false:=Pf (by omega);refine⟨t,a,by omega,by omega,⟨by omega,f⟩,?_⟩;simp only[go_sem,simprocAttr,f48]at d;subst d;rw[Ze];simp only[go_sem,simprocAttr,g]
 |m+1,j,i,t,a,B,b,d,e,p,hi,q,r,f=>by subst hi;have h:=d;have g:decide ((j:Int)<(c:Int))=true:=Pk (by omega);have u:=Yb e (by omega) 17;obtain⟨x,k,v⟩:=ZdZ (l:=pcs) (ZD L a 17 (by omega) (by omega));have w:=Zyw x k;have y:=ZQ (i:=j) (n:=c) (by omega) (by omega);have A:(t.length+x.length≤Xa)=True:=V5 (by unfold Xa;omega);have C:(pcs.map fun x=>[AV.str x]).length=17:=rfl;obtain⟨t',a',F,G,D,E⟩:=ZwM c o ks m (j+1) _ (t++x) (a+1) (B-1) b h (e.step _ _ (by omega) (by omega)) (by omega) rfl (by omega) (by rw[Vu];omega) (by rw[PI,f,ZAH x k]);refine⟨t',a',by omega,by omega,D,?_⟩;simp only[go_sem,simprocAttr,f48]at d;subst d;rw[Ze];simp only[go_sem,simprocAttr,g,u,v,C,y,A];rw[E]
theorem Zv9(h:Gd L a B)(y:10≤B):∃s a',R K (.call 48 [.ptr 0 0] (St L a))=some (.str s,St L a')∧a≤a'∧a'≤a+10∧s.length≤2000∧s.count 41=0:=by
 have b:=Xk h (by omega) 12;have c:=h.step (a+1) (B-1) (by omega) (by omega);cases o:ZS L a 12==0 with
 |true =>
  rw[o]at b;have d:=Yb c (by omega) 4;obtain⟨s,hs,q⟩:=ZdZ (l:=[[97],[39],[92],[37]]) (ZD L (a+1) 4 (by omega) (by omega));have e:s.count 41=0:=(by decide:∀x∈([[97],[39],[92],[37]]:List (List UInt8)),x.count 41=0) s hs;have f:s.length≤1:=(by decide:∀x∈([[97],[39],[92],[37]]:List (List UInt8)),x.length≤1) s hs;have h2:=c.step (a+1+1) (B-2) (by omega) (by omega);obtain⟨x,u,p⟩:=ZdU h2 (by omega) [49,50,51,99,100,101] (by decide) (by decide);have g:0≤x∧x≤101:=(by decide:∀x∈([49,50,51,99,100,101]:List Int),0≤x∧x≤101) x u;have r:=ZeU s x.toNat (by omega) (by omega);rw[Pz g.1]at r;simp only[List.map]at p q;refine⟨Lib.repeatL s x.toNat,a+1+1+1,?_,by omega,by omega,?_⟩
  ·rw[Zrd];simp only[go_sem,simprocAttr,f48,b,d,q,p,r]
  rw[Lib.repeatL_length,SD];have:s.length*x.toNat≤1*101:=Pi f (by omega);exact⟨by omega,ZpA s e _⟩
 |false =>
  rw[o]at b;have d:=WU c (by omega) 0 3 (by omega) (by omega) (by omega);have A:=Wd L (a+1) 0 3 (by omega) (by omega);have v:((Jq L (a+1) 0 3).toNat:Int)=Jq L (a+1) 0 3:=by omega
  obtain⟨t',a',C,D,w,k⟩:=ZwM (L:=L) (Jq L (a+1) 0 3).toNat (by omega) [.code _] (Jq L (a+1) 0 3).toNat 0 0 [] (a+1+1) (B-2) _ rfl (c.step _ _ (by omega) (by omega)) (by omega) rfl (by omega) (by simp) rfl;rw[v]at k;refine⟨t',a',?_,by omega,by omega,by omega,w.2⟩;rw[Zrd];simp only[go_sem,simprocAttr,f48,b,d];simp only[pcs,List.map]at k;rw[k];simp only[go_sem,simprocAttr]
theorem ZAm(h:Gd L a B)(D:12≤B)(k:Int):∃v a',R K (.call 50 [.ptr 0 0,I k] (St L a))=some (enc v,St L a')∧a≤a'∧a'≤a+12∧v.s.length≤2000∧v.s.count 41=0:=by
 by_cases d:k=1
 ·subst d;have b:=Yb h (by omega) 2;refine⟨⟨1,ZS L a 2,[]⟩,a+1,?_,by omega,by omega,by simp,rfl⟩;rw[Ze3];simp only[go_sem,simprocAttr,f50,b]
 have g:(k==1)=false:=by simpa using d
 by_cases e:k=2
 ·subst e;obtain⟨n,a',b,o,q⟩:=ZzF h (by omega);refine⟨⟨2,if 999999999999999<(if n < -999999999999999 then -999999999999999 else n)then 999999999999999 else(if n < -999999999999999 then -999999999999999 else n),[]⟩,a',?_,by omega,by omega,by simp,rfl⟩;rw[Ze3];simp only[go_sem,simprocAttr,f50,b]
  all_goals rfl
 have r:(k==2)=false:=by simpa using e
 by_cases f:k=3
 ·subst f;obtain⟨s,a',b,o,q,u⟩:=Zv9 h (by omega);by_cases E:100<s.length
  ·have c:decide ((100:Int)<(s.length:Int))=true:=Pk (by omega);have w:((100:Int)≤(s.length:Int))=True:=V5 (by omega);have y:(100:Int).toNat=100:=rfl;refine⟨⟨3,0,s.take 100⟩,a',?_,by omega,by omega,by simp;omega,Nat.eq_zero_of_le_zero (by show(s.take 100).count 41≤0;have:=List.Sublist.count_le (41:UInt8) (List.take_sublist 100 s);omega)⟩;rw[Ze3];simp only[go_sem,simprocAttr,f50,b,c,w,y]
  have c:decide ((100:Int)<(s.length:Int))=false:=Pf (by omega);refine⟨⟨3,0,s⟩,a',?_,by omega,by omega,u⟩;rw[Ze3];simp only[go_sem,simprocAttr,f50,b,c]
 have A:(k==3)=false:=by simpa using f
 have b:=WU h (by omega) 0 2147483648 (by omega) (by omega) (by omega);have C:=h.step (a+1) (B-1) (by omega) (by omega);obtain⟨x,_,p⟩:=ZdU C (by omega) [0,1,59,86399,86400,951782400,951868799,1709164800,1706659200,253402300799,Jq L a 0 2147483648] (by simp) (by simp);simp only[List.map]at p;refine⟨⟨k,x,[]⟩,a+1+1,?_,by omega,by omega,by simp,rfl⟩;rw[Ze3];simp only[go_sem,simprocAttr,f50,g,r,A,b,p]
theorem Zhs(h:Gd L a B)(g:13≤B)(k:Int):∃v a',R K (.call 25 [.ptr 0 0,I k] (St L a))=some (enc v,St L a')∧a≤a'∧a'≤a+13∧v.s.length≤2000∧v.s.count 41=0:=by
 have b:=Xk h (by omega) 7;have d:=h.step (a+1) (B-1) (by omega) (by omega);cases c:ZS L a 7==0 with
 |true =>
  rw[c]at b;refine⟨null,a+1,?_,by omega,by omega,by simp[null],rfl⟩;rw[Zql];simp only[go_sem,simprocAttr,f25,b]
  all_goals rfl
 |false =>
  rw[c]at b;obtain⟨v,a',e,o,p,f⟩:=ZAm d (by omega) k;refine⟨v,a',?_,by omega,by omega,f⟩;rw[Zql];simp only[go_sem,simprocAttr,f25,b,e]
theorem Zz2(h:Gd L a B)(Q:30≤B):∃v a',R K (.call 23 [.ptr 0 0] (St L a))=some (enc v,St L a')∧a≤a'∧a'≤a+30∧v.s.length≤2001∧v.s.count 41=0:=by
 have d:=WU h (by omega) 1 4 (by omega) (by omega) (by omega);obtain⟨v,b,e,S,T,g⟩:=Zhs (h.step (a+1) (B-1) (by omega) (by omega)) (by omega) (Jq L a 1 4);have r:=h.step b (B-14) (by omega) (by omega);have c:=Xk r (by omega) 8;cases u:ZS L b 8==0 with
 |false =>
  rw[u]at c;refine⟨v,b+1,?_,by omega,by omega,by omega,g.2⟩;rw[Zdg];simp only[go_sem,simprocAttr,f23,d,e,c]
 |true =>
  rw[u]at c;have h2:=r.step (b+1) (B-15) (by omega) (by omega);have f:=Yb h2 (by omega) 5;have h3:=h2.step (b+1+1) (B-16) (by omega) (by omega);by_cases w:ZS L (b+1) 5=0
  ·obtain⟨x,_,p⟩:=ZdU h3 (by omega) [-1,5,0,1,2,3,4] (by decide) (by decide);simp only[List.map]at p;refine⟨⟨x,v.n,v.s⟩,b+1+1+1,?_,by omega,by omega,by simp only;omega,g.2⟩;rw[Zdg];simp only[go_sem,simprocAttr,f23,d,e,c,f,w,p]
  have E:(ZS L (b+1) 5==0)=false:=by simpa using w
  by_cases y:ZS L (b+1) 5=1
  ·obtain⟨n,o,p,F,G⟩:=ZzF h3 (by omega);refine⟨⟨v.k,n,v.s⟩,o,?_,by omega,by omega,by simp only;omega,g.2⟩;rw[Zdg];simp only[go_sem,simprocAttr,f23,d,e,c,f,y,p]
  have H:(ZS L (b+1) 5==1)=false:=by simpa using y
  by_cases A:ZS L (b+1) 5=2
  ·obtain⟨s,o,p,F,G,J⟩:=Zv9 h3 (by omega);refine⟨⟨v.k,v.n,s⟩,o,?_,by omega,by omega,by simp only;omega,J.2⟩;rw[Zdg];simp only[go_sem,simprocAttr,f23,d,e,c,f,A,p]
  have M:(ZS L (b+1) 5==2)=false:=by simpa using A
  by_cases C:ZS L (b+1) 5=3
  ·have N:(v.s.length+1≤Xa)=True:=V5 (by unfold Xa;omega);refine⟨⟨v.k,v.n,v.s++[10]⟩,b+1+1,?_,by omega,by omega,by simp;omega,by simp only;rw[PI,g.2];rfl⟩;rw[Zdg];simp only[go_sem,simprocAttr,f23,d,e,c,f,C,N]
  have O:(ZS L (b+1) 5==3)=false:=by simpa using C
  obtain⟨x,P,p⟩:=ZdU h3 (by omega) [100,101] (by decide) (by decide);have q:0≤x∧x≤101:=(by decide:∀x∈([100,101]:List Int),0≤x∧x≤101) x P;have D:=ZeU [122] x.toNat (by omega) (by simp);rw[Pz q.1]at D;simp only[List.map]at p;refine⟨⟨v.k,v.n,Lib.repeatL [122] x.toNat⟩,b+1+1+1,?_,by omega,by omega,?_⟩
  ·rw[Zdg];simp only[go_sem,simprocAttr,f23,d,e,c,f,E,H,M,O,p,D]
  simp only;rw[Lib.repeatL_length];exact⟨by simp;omega,ZpA _ rfl _⟩
end
structure FitT(t:Tbl):Prop where
 nm:t.nm.length≤100000000
 cols:t.cols.length≤1000000
 key:t.key.length≤1000000
 fgn:t.fgn.length≤1000000
 idx:t.idx.length≤1000000
 col:∀c∈t.cols,c.nm.length≤100000000
 fg:∀f∈t.fgn,f.nm.length≤100000000∧f.cols.length≤1000000
 ix:∀x∈t.idx,x.nm.length≤100000000∧x.cols.length≤1000000
abbrev tbH(t:Tbl):Za:=[.cells (Zc t)]
def Zf6(t:Tbl)(i:Nat):Int:=match t.cols[i]? with
 |some c=>if Xw c.nm=false then 5 else if ixN c.nm (t.cols.map (·.nm)) 0<(i:Int)then 6 else QA c.kd c.df
 |none=>0
theorem Zsn(t:Tbl)(e:FitT t)(i:Nat)(hi:i<t.cols.length):R K (.call 284 [I (i:Int),.ptr 0 0] (tbH t))=some (I (Zf6 t i),tbH t):=by
 obtain⟨c,b⟩:=Zu hi;have d:=Ym b;have o:c∈t.cols:=Ve b;have f:=Zof c.nm (e.col c o);have h2:=ZbT t c.nm e.cols;have h3:=ZrY c.kd 1 4;have g:=Zlg c.kd c.df.k c.df.n c.df.s;unfold Zf6;rw[b];simp only;have p:ZY c.kd 1 4=false→QA c.kd c.df=4:=fun h=>by simp[QA,h]
 simp only[Yk,Zc,Zh]at h2 d;generalize QA c.kd ⟨c.df.k,c.df.n,c.df.s⟩=y at *;generalize Xw c.nm=x at *;rw[ZtC];simp only[go_sem,simprocAttr,f284,Zc,d,f,h2,h3,g]
 repeat' ((first|apply ZG|apply ZK|apply ZT)<;>intro b<;>simp only[b,go_sem,simprocAttr,Zc,d,f,h2,h3,g])
 all_goals (simp_all[Zc]<;>(try (intro;omega)))
theorem Zsh(t:Tbl)(c:FitT t):ZdC (tbH t) (.fn 284 [.ptr 0 0]) (Zf6 t) t.cols.length:=fun i hi=>by have b:=Zsn t c i hi;simp only[tbH,Zc]at b ⊢;simp only[go_sem,simprocAttr,b]
theorem Zij(t:Tbl):Zi (tbH t).length (Zk (tbH t))=true:=rfl
def ZaO(t:Tbl):Int:=evE (Zf6 t) 0 t.cols.length
theorem Zsv(t:Tbl)(b:FitT t):R K (.call 189 [Yk t] [])=some (I (ZaO t),[]):=by have hi:=Za2 (.fn 284 [.ptr 0 0]) (tbH t) (Zf6 t) t.cols.length b.cols (Zij t) (Zsh t b);unfold ZaO;simp only[tbH,Zc]at hi;rw[Zth];simp only[go_sem,simprocAttr,f189,Zc,hi,Vd]
theorem J6{c:List UInt8}(h:l[j]?=some c):at? (SLs l) (j:Int)=some [.str c]:=ZW (by simp[h])
theorem Zz7(n:List UInt8)(l:List (List UInt8))(u:l.length≤1000000)(ks:List It):∀(q j:Nat) (i:Int) (f:Code),YP f41 0 f→i=(j:Int)→l.length=j+q →
  RL K (.run 41 0 (.code f::.lp f (some ([0,1,7,8],[])) 0::.blk 0 0::ks) [(0,.rows (SLs l)),(1,.str n),(7,I (l.length:Int)),(8,I i)] []) =
  if ixN n (l.drop j) j=-1 then R K (.run 41 0 ks [] [])else some (I (ixN n (l.drop j) j),[])
 |0,j,i,f,b,hi,v=>by
  subst hi;have d:¬(j:Int)<(l.length:Int):=by omega
  rw[V2 (by omega),show ixN n [] j=-1 from rfl,Vr rfl];simp only[go_sem,simprocAttr,f41]at b;subst b;rw[Ze];simp only[go_sem,simprocAttr,d]
 |q+1,j,i,f,b,hi,v=>by
  subst hi;have k:=b;have d:(j:Int)<(l.length:Int):=by omega
  have w:Zx .i64 ((j:Int)+1)=((j+1:Nat):Int):=ZQ (n:=l.length) (by omega) (by omega);obtain⟨c,g⟩:=Zu (l:=l) (i:=j) (by omega);have r:=J6 g;have y:=Zz7 n l u ks q (j+1) _ f k rfl (by omega);rw[Y8 g];by_cases h:c=n
  ·have o:ixN n (c::l.drop (j+1)) j=(j:Int):=by simp only[ixN];rw[Vr h]
   have p:(n==c)=true:=by simpa using h.symm
   rw[o,Vm (by omega)];simp only[go_sem,simprocAttr,f41]at b;subst b;rw[Ze];simp only[go_sem,simprocAttr,d,r,p]
  have o:ixN n (c::l.drop (j+1)) j=ixN n (l.drop (j+1)) (j+1):=by conv=>lhs;simp only[ixN];rw[Vm h]
  have p:(n==c)=false:=by simpa using fun e:n=c=>h e.symm
  rw[o];simp only[go_sem,simprocAttr,f41]at b;subst b;rw[Ze];simp only[go_sem,simprocAttr,d,w,r,p];rw[y]
theorem ZCC(n:List UInt8)(l:List (List UInt8))(c:l.length≤1000000):R K (.call 41 [.rows (SLs l),.str n] [])=some (I (ixN n l 0),[]):=by
 have b:=fun ks B d=>Zz7 n l c ks l.length 0 0 B d rfl (by omega);simp only[Ui]at b;rw[ZyH];simp only[go_sem,simprocAttr,f41,Vd];rw[b _ _ ?_]
 ·split
  ·rename_i e;rw[e];simp only[go_sem,simprocAttr]
  rfl
 rfl
theorem YR(n:List UInt8)(l:List (List UInt8))(c:l.length≤1000000):R K (.call 16 [.rows (SLs l),.str n] [])=some (.bool (l.contains n),[]):=by
 have hi:=ZCC n l c;have e:decide ((0:Int)≤ixN n l 0)=l.contains n:=by
  rw[UE,VK,UP];have b:=Zb5 n l 0;rcases Zel n l 0 with h2|h2
  ·rw[h2];simp[b.1 h2]
  constructor
  ·intro _;refine S9 fun h3=>?_;have:=b.2 h3;omega
  intro _;omega
 rw[Zy0];simp only[go_sem,simprocAttr,f16,hi,e]
theorem J0{n:List UInt8}(h:¬ixN n (t.cols.map (·.nm)) 0<0):∃(a:Nat) (c:Col),ixN n (t.cols.map (·.nm)) 0=(a:Int)∧t.cols[a]?=some c:=by have b:=Zpl n (t.cols.map (·.nm)) 0;rw[Vd]at b;obtain⟨a,d⟩:=UW (Int.not_lt.1 h);exact⟨a,t.cols[a]'(by omega),d,VB _⟩
def W3(t:Tbl)(l:List (List UInt8))(m:Col→Int)(i:Nat):Int:=match l[i]? with
 |some n=>if ixN n (t.cols.map (·.nm)) 0<0 then 5 else if(l.take i).contains n=true then 6 else(match t.cols[(ixN n (t.cols.map (·.nm)) 0).toNat]? with
  |some c=>m c
  |none=>0)
 |none=>0
abbrev nsH(t:Tbl)(l:List (List UInt8))(g:Nat):Za:=[.cells (Zc t),.cells [.rows (SLs l)],.cells [.fn g []]]
theorem ZqD(a:List (List UInt8))(s:List UInt8):SLs a++[[AV.str s]]=SLs (a++[s]):=by simp[SLs]
theorem Zv:∀l:List (List UInt8),Zz (SLs l)=[]
 |[]=>rfl
 |s::l=>by simpa[SLs,Zz,Zg,locs]using Zv l
theorem Yh(a:List (List UInt8)):(SLs a).length=a.length:=by simp[SLs]
theorem QG(l:List (List UInt8))(i:Nat):List.take i (SLs l)=SLs (l.take i):=by simp[SLs,UV]
theorem Xc:∀l:List (List UInt8),Y1 1 (SLs l)=true
 |[]=>rfl
 |s::l=>by simpa[Y1]using Xc l
theorem Zzo(t:Tbl)(v:FitT t)(l:List (List UInt8))(A:l.length≤1000000)(g:Nat)(w:g=192∨g=196)(m:Col→Int)(y:∀c,R K (.call g [Jy c] [])=some (I (m c),[]))(i:Nat)(hi:i<l.length):
  R K (.call 286 [I (i:Int),.ptr 0 0,.ptr 1 0,.ptr 2 0] (nsH t l g))=some (I (W3 t l m i),nsH t l g):=by
 obtain⟨n,q⟩:=Zu hi;have b:=J6 q;have h2:=ZbT t n v.cols;have h3:=YR n (l.take i) (by simp;omega);have f:((i:Int)≤(l.length:Int))=True:=V5 (by omega);have h:((0:Int)≤(i:Int))=True:=V5 (by omega);unfold W3;rw[q];simp only;simp only[Yk,Zc]at h2;by_cases o:ixN n (t.cols.map (·.nm)) 0<0
 ·rw[ZiK];simp only[go_sem,simprocAttr,f286,Zc,b,h2,o];rfl
 obtain⟨a,c,r,u⟩:=J0 o;have d:=Ym u;have e:=y c;rw[Vm o,r,Vk,u];rw[r]at h2;have k:((a:Int)<0)=False:=Pw (by omega);simp only[Jy,Zh]at d e ⊢;generalize(l.take i).contains n=x at *;rcases w with rfl|rfl
 ·rw[ZiK];simp only[go_sem,simprocAttr,f286,Zc,b,h2,k,h3,QG,Xc,f,h,Vk,V4,Vd,d,e]
  repeat' ((first|apply ZG|apply ZK|apply ZT)<;>intro p<;>simp only[p,go_sem,simprocAttr,Zc,b,h2,k,h3,QG,Xc,f,h,Vk,V4,Vd,d,e])
  all_goals simp_all[Zc]
 rw[ZiK];simp only[go_sem,simprocAttr,f286,Zc,b,h2,k,h3,QG,Xc,f,h,Vk,V4,Vd,d,e]
 repeat' ((first|apply ZG|apply ZK|apply ZT)<;>intro p<;>simp only[p,go_sem,simprocAttr,Zc,b,h2,k,h3,QG,Xc,f,h,Vk,V4,Vd,d,e])
 all_goals simp_all[Zc]
theorem Zyu(t:Tbl)(d:FitT t)(l:List (List UInt8))(e:l.length≤1000000)(g:Nat)(f:g=192∨g=196)(m:Col→Int)(h:∀c,R K (.call g [Jy c] [])=some (I (m c),[])):
  ZdC (nsH t l g) (.fn 286 [.ptr 0 0,.ptr 1 0,.ptr 2 0]) (W3 t l m) l.length:=fun i hi=>by
 have b:=Zzo t d l e g f m h i hi;simp only[nsH,Zc]at b ⊢;simp only[go_sem,simprocAttr,b]
def QB(t:Tbl)(l:List (List UInt8))(m:Col→Int):Int:=evE (W3 t l m) 0 l.length
theorem Za9(t:Tbl)(d:FitT t)(l:List (List UInt8))(b:l.length≤1000000)(g:Nat)(e:g=192∨g=196)(m:Col→Int)(f:∀c,R K (.call g [Jy c] [])=some (I (m c),[])):
  R K (.call 191 [Yk t,.rows (SLs l),.fn g []] [])=some (I (QB t l m),[]):=by
 have hi:=Za2 (.fn 286 [.ptr 0 0,.ptr 1 0,.ptr 2 0]) (nsH t l g) (W3 t l m) l.length b rfl (Zyu t d l b g e m f);unfold QB;simp only[nsH,Zc]at hi;rw[Zwi];simp only[go_sem,simprocAttr,f191,Zc,hi,Vd]
def ZjH(c:Col):Int:=if c.nl=true then 9 else 0
theorem ZA7(c:Col):R K (.call 192 [Jy c] [])=some (I (ZjH c),[]):=by
 rw[Zwb];simp only[go_sem,simprocAttr,f192,Zh]
 repeat' ((first|apply ZG|apply ZK|apply ZT)<;>intro b<;>simp only[b,go_sem,simprocAttr,Zh])
 all_goals simp_all[ZjH]
theorem Zs7(c:Col):R K (.call 196 [Jy c] [])=some (I 0,[]):=by rw[Zv4];simp only[go_sem,simprocAttr,f196,Zh]
theorem ZbD{l:List Fgn}{c:Fgn}(h:l[j]?=some c):at? (l.map Z7) (j:Int)=some (Z7 c):=ZW (by simp[h])
theorem Zft{l:List Idx}{c:Idx}(h:l[j]?=some c):at? (l.map Yq) (j:Int)=some (Yq c):=ZW (by simp[h])
abbrev tiH(t:Tbl)(i:Nat):Za:=[.cells (Zc t),.cells [I (i:Int)]]
theorem Zmq(h:i+1≤1000000):Zx .i64 (((i+1:Nat):Int)-1)=(i:Int):=by rw[Zq (by omega) (by omega)];omega
theorem Zr2(t:Tbl)(i:Nat)(f:Fgn)(hi:i+1≤1000000)(c:t.fgn[i]?=some f):R K (.call 195 [.ptr 0 0,.ptr 1 0] (tiH t (i+1)))=some (.str f.nm,tiH t (i+1)):=by have d:=Zmq hi;have b:=ZbD c;simp only[Z7]at b;rw[Ztp];simp only[go_sem,simprocAttr,f195,Zc,d,b];rfl
theorem ZsE(t:Tbl)(i:Nat)(f:Idx)(hi:i+1≤1000000)(c:t.idx[i]?=some f):R K (.call 199 [.ptr 0 0,.ptr 1 0] (tiH t (i+1)))=some (.str f.nm,tiH t (i+1)):=by have d:=Zmq hi;have b:=Zft c;simp only[Yq]at b;rw[Zxh];simp only[go_sem,simprocAttr,f199,Zc,d,b];rfl
theorem ZsF(t:Tbl)(i:Nat)(f:Fgn)(hi:i+1≤1000000)(c:t.fgn[i]?=some f):ZU nlA (R K) (tiH t (i+1)) [] (.fn 195 [.ptr 0 0,.ptr 1 0])=some (.str f.nm,tiH t (i+1)):=by have b:=Zr2 t i f hi c;simp only[tiH,Zc]at b ⊢;simp only[go_sem,simprocAttr,b]
theorem ZsH(t:Tbl)(i:Nat)(f:Idx)(hi:i+1≤1000000)(c:t.idx[i]?=some f):ZU nlA (R K) (tiH t (i+1)) [] (.fn 199 [.ptr 0 0,.ptr 1 0])=some (.str f.nm,tiH t (i+1)):=by have b:=ZsE t i f hi c;simp only[tiH,Zc]at b ⊢;simp only[go_sem,simprocAttr,b]
def JQ(l:List (List UInt8))(i:Nat):List UInt8:=(l[i-1]?).getD []
def Zcb(t:Tbl)(i:Nat):Int:=match t.fgn[i]? with
 |some f=>orE (Q9 f.nm (JQ (t.fgn.map (·.nm)) i) (i==0)) (QB t f.cols fun _=>0)
 |none=>0
theorem ZA9(t:Tbl)(b:FitT t)(i:Nat)(f:Fgn)(c:t.fgn[i]?=some f):R K (.call 186 [.str f.nm,I (i:Int),.fn 195 [.ptr 0 0,.ptr 1 0]] (tiH t i))=some (I (Q9 f.nm (JQ (t.fgn.map (·.nm)) i) (i==0)),tiH t i):=by
 have h:=(Vb.1 c).1;refine Zcy _ _ _ _ _ (b.fg f (Ve c)).1 rfl fun hi=>?_;obtain⟨j,rfl⟩:∃j,i=j+1:=⟨i-1,by omega⟩;obtain⟨g,d⟩:=Zu (l:=t.fgn) (i:=j) (by omega);have:=b.fgn;have e:JQ (t.fgn.map (·.nm)) (j+1)=g.nm:=by simp[JQ,d]
 rw[e];exact ZsF t j g (by omega) d
theorem ZCW(t:Tbl)(c:FitT t)(i:Nat)(hi:i<t.fgn.length):R K (.call 194 [I (i:Int),.ptr 0 0] (tbH t))=some (I (Zcb t i),tbH t):=by
 obtain⟨f,b⟩:=Zu hi;have d:=ZbD b;have h:=Ve b;have e:=ZA9 t c i f b;have h2:=Za9 t c f.cols (c.fg f h).2 196 (.inr rfl) (fun _=>0) Zs7;unfold Zcb;rw[b];simp only;generalize Q9 f.nm (JQ (t.fgn.map (·.nm)) i) (i==0)=x at *;generalize QB t f.cols (fun _=>0)=y at *;simp only[Yk,Zc,Z7,tiH]at e h2 d;by_cases g:x=0
 ·subst g;rw[Zop];simp only[go_sem,simprocAttr,f194,Zc,d,e,h2,bne];rfl
 have k:(x==0)=false:=by simpa using g
 rw[Zop];simp only[go_sem,simprocAttr,f194,Zc,d,e,bne,k];simp[orE,g,Zc]
def Zbf(t:Tbl)(i:Nat):Int:=match t.idx[i]? with
 |some f=>orE (Q9 f.nm (JQ (t.idx.map (·.nm)) i) (i==0)) (if f.cols.length=0 then 3 else if 8<f.cols.length then 2 else QB t f.cols fun _=>0)
 |none=>0
theorem ZBQ(t:Tbl)(b:FitT t)(i:Nat)(f:Idx)(c:t.idx[i]?=some f):R K (.call 186 [.str f.nm,I (i:Int),.fn 199 [.ptr 0 0,.ptr 1 0]] (tiH t i))=some (I (Q9 f.nm (JQ (t.idx.map (·.nm)) i) (i==0)),tiH t i):=by
 have h:=(Vb.1 c).1;refine Zcy _ _ _ _ _ (b.ix f (Ve c)).1 rfl fun hi=>?_;obtain⟨j,rfl⟩:∃j,i=j+1:=⟨i-1,by omega⟩;obtain⟨g,d⟩:=Zu (l:=t.idx) (i:=j) (by omega);have:=b.idx;have e:JQ (t.idx.map (·.nm)) (j+1)=g.nm:=by simp[JQ,d]
 rw[e];exact ZsH t j g (by omega) d
theorem ZCJ(t:Tbl)(h:FitT t)(i:Nat)(hi:i<t.idx.length):R K (.call 198 [I (i:Int),.ptr 0 0] (tbH t))=some (I (Zbf t i),tbH t):=by
 obtain⟨f,e⟩:=Zu hi;have c:=Zft e;have p:=Ve e;have d:=ZBQ t h i f e;have h2:=Za9 t h f.cols (h.ix f p).2 196 (.inr rfl) (fun _=>0) Zs7;unfold Zbf;rw[e];simp only;generalize Q9 f.nm (JQ (t.idx.map (·.nm)) i) (i==0)=x at *;generalize QB t f.cols (fun _=>0)=y at *;simp only[Yk,Zc,Yq,tiH]at d h2 c;by_cases k:x=0
 ·subst k;by_cases a:f.cols.length=0
  ·have g:((f.cols.length:Int)==0)=true:=by simp[a]
   rw[ZfC];simp only[go_sem,simprocAttr,f198,Zc,c,d,bne,Vd,g];simp[orE,a,Zc]
  have g:((f.cols.length:Int)==0)=false:=by rw[←U2,Up];omega
  by_cases b:8<f.cols.length
  ·have o:((8:Int)<(f.cols.length:Int))=True:=V5 (by omega);rw[ZfC];simp only[go_sem,simprocAttr,f198,Zc,c,d,bne,Vd,g,o];simp[orE,a,b,Zc]
  have o:((8:Int)<(f.cols.length:Int))=False:=Pw (by omega);rw[ZfC];simp only[go_sem,simprocAttr,f198,Zc,c,d,h2,bne,Vd,g,o];simp[orE,a,b,Zc]
 have q:(x==0)=false:=by simpa using k
 rw[ZfC];simp only[go_sem,simprocAttr,f198,Zc,c,d,bne,q];simp[orE,k,Zc]
theorem Zqm(h:Za)(l:Nat)(w:Bool)(fs:List AV)(e:Nat→Int)(G:fs.length≤1000000)(o:h[l]?=some (.rows 1 (fs.map fun f=>[f]) w))(A:Zi h.length (Zk h)=true)(C:∀j f,(∀k,k<j→e k=0)→fs[j]?=some f→ZU nlA (R K) h [] f=some (I (e j),h))(ks:List It):
  ∀(q j:Nat) (i:Int) (c:Code),YP f107 0 c→i=(j:Int)→fs.length=j+q→(∀k,k<j→e k=0) →
  RL K (.run 107 h.length (.code c::.lp c (some ([6,7,8],[])) h.length::.blk 0 h.length::ks) [(6,.own l fs.length),(7,I (fs.length:Int)),(8,I i)] h) =
  if evE e j q=0 then R K (.run 107 h.length ks [] h)else some (I (evE e j q),h)
 |0,j,i,c,b,hi,H,_=>by
  subst hi;have d:¬(j:Int)<(fs.length:Int):=by omega
  simp only[go_sem,simprocAttr,f107]at b;subst b;rw[Ze];simp only[go_sem,simprocAttr,d,evE]
 |q+1,j,i,c,b,hi,H,D=>by
  subst hi;have p:=b;have d:(j:Int)<(fs.length:Int):=by omega
  have P:((0:Int)≤(j:Int))=True:=V5 (by omega);have J:Zx .i64 ((j:Int)+1)=((j+1:Nat):Int):=ZQ (n:=fs.length) (by omega) (by omega);obtain⟨f,E⟩:=Zu (l:=fs) (i:=j) (by omega);have r:=C j f D E;have u:(fs.map fun f=>[f])[j]?=some [f]:=by simp[E]
  have F:=ZW u;by_cases g:e j=0
  ·have v:evE e j (q+1)=evE e (j+1) q:=by simp only[evE];rw[Vr g]
   have M:=Zqm h l w fs e G o A C ks q (j+1) _ c p rfl (by omega) fun k N=>by
    by_cases y:k=j
    ·rw[y];exact g
    exact D k (by omega)
   rw[v];rw[g]at r;simp only[go_sem,simprocAttr,f107]at b;subst b;rw[Ze];simp only[go_sem,simprocAttr,d,J,o,u,F,r,bne,Vk,Vd];rw[M]
  have v:evE e j (q+1)=e j:=by simp only[evE];rw[Vm g]
  have O:(e j==0)=false:=by simpa using g
  rw[v,Vm g];simp only[go_sem,simprocAttr,f107]at b;subst b;rw[Ze];simp only[go_sem,simprocAttr,d,o,u,F,r,O,bne,A,Vk,Vd]
theorem ZqN(h:Za)(l:Nat)(w:Bool)(fs:List AV)(n:Nat)(e:Nat→Int)(c:fs.length=n)(d:n≤1000000)(g:h[l]?=some (.rows 1 (fs.map fun f=>[f]) w))(b:Zi h.length (Zk h)=true)(o:∀j f,(∀k,k<j→e k=0)→fs[j]?=some f→ZU nlA (R K) h [] f=some (I (e j),h)):
  R K (.call 107 [.own l n] h)=some (I (evE e 0 n),h):=by
 subst c;have p:=fun ks B q=>Zqm h l w fs e d g b o ks fs.length 0 0 B q rfl (by omega) (fun k r=>absurd r (by omega));rw[Zv3];simp only[go_sem,simprocAttr,f107];rw[p _ _ ?_]
 ·split
  ·rename_i u;rw[u];simp only[go_sem,simprocAttr,b]
  rfl
 rfl
theorem ZDU(t:Tbl)(b:FitT t):R K (.call 188 [.ptr 0 0] (tbH t))=some (I (ZaO t),tbH t):=by have hi:=Zsv t b;simp only[Yk,Zc]at hi;rw[Zwy];simp only[go_sem,simprocAttr,f188,Zc,hi];rfl
def Zl1(t:Tbl):Int:=if t.key.length=0 then 3 else QB t t.key ZjH
theorem ZEE(t:Tbl)(c:FitT t):R K (.call 190 [.ptr 0 0] (tbH t))=some (I (Zl1 t),tbH t):=by
 have hi:=Za9 t c t.key c.key 192 (.inl rfl) ZjH ZA7;simp only[Yk,Zc]at hi;unfold Zl1;by_cases a:t.key.length=0
 ·have b:((t.key.length:Int)==0)=true:=by simp[a]
  rw[ZmO];simp only[go_sem,simprocAttr,f190,Zc,b,Vd];simp[a,Zc]
 have b:((t.key.length:Int)==0)=false:=by rw[←U2,Up];omega
 rw[ZmO];simp only[go_sem,simprocAttr,f190,Zc,hi,b,Vd];simp[a,Zc]
theorem ZCN(t:Tbl)(c:FitT t):ZdC (tbH t) (.fn 194 [.ptr 0 0]) (Zcb t) t.fgn.length:=fun i hi=>by have b:=ZCW t c i hi;simp only[tbH,Zc]at b ⊢;simp only[go_sem,simprocAttr,b]
theorem ZCn(t:Tbl)(c:FitT t):ZdC (tbH t) (.fn 198 [.ptr 0 0]) (Zbf t) t.idx.length:=fun i hi=>by have b:=ZCJ t c i hi;simp only[tbH,Zc]at b ⊢;simp only[go_sem,simprocAttr,b]
theorem ZDT(t:Tbl)(b:FitT t):R K (.call 193 [.ptr 0 0] (tbH t))=some (I (evE (Zcb t) 0 t.fgn.length),tbH t):=by have hi:=Za2 _ (tbH t) (Zcb t) t.fgn.length b.fgn (Zij t) (ZCN t b);simp only[tbH,Zc]at hi;rw[ZsZ];simp only[go_sem,simprocAttr,f193,Zc,hi,Vd];rfl
theorem ZEJ(t:Tbl)(b:FitT t):R K (.call 197 [.ptr 0 0] (tbH t))=some (I (evE (Zbf t) 0 t.idx.length),tbH t):=by have hi:=Za2 _ (tbH t) (Zbf t) t.idx.length b.idx (Zij t) (ZCn t b);simp only[tbH,Zc]at hi;rw[ZwS];simp only[go_sem,simprocAttr,f197,Zc,hi,Vd];rfl
abbrev foH(t:Tbl)(w:Bool):Za:=[.rows 1 [[.fn 188 [.ptr 1 0]],[.fn 190 [.ptr 1 0]],[.fn 193 [.ptr 1 0]],[.fn 197 [.ptr 1 0]]] w,.cells (Zc t)]
def ZaT(t:Tbl):Nat→Int
 |0=>ZaO t
 |1=>Zl1 t
 |2=>evE (Zcb t) 0 t.fgn.length
 |3=>evE (Zbf t) 0 t.idx.length
 |_=>0
theorem Zx5(t:Tbl)(c:FitT t)(w:Bool):R K (.call 107 [.own 0 4] (foH t w))=some (I (evE (ZaT t) 0 4),foH t w):=by
 refine ZqN (foH t w) 0 w [.fn 188 [.ptr 1 0],.fn 190 [.ptr 1 0],.fn 193 [.ptr 1 0],.fn 197 [.ptr 1 0]] 4 (ZaT t) rfl (by omega) rfl rfl ?_;intro j f _ b;have d:=ZDU t c;have e:=ZEE t c;have h2:=ZDT t c;have h3:=ZEJ t c;simp only[tbH,Zc]at d e h2 h3
 match j,b with
 |0,b =>
  simp only[Vt,Va]at b;subst b;simp only[foH,Zc,ZaT];simp only[go_sem,simprocAttr,d]
 |1,b =>
  simp only[VJ,Vt,Va]at b;subst b;simp only[foH,Zc,ZaT];simp only[go_sem,simprocAttr,e]
 |2,b =>
  simp only[VJ,Vt,Va]at b;subst b;simp only[foH,Zc,ZaT];simp only[go_sem,simprocAttr,h2]
 |3,b =>
  simp only[VJ,Vt,Va]at b;subst b;simp only[foH,Zc,ZaT];simp only[go_sem,simprocAttr,h3]
 |j+4,b=>simp at b
abbrev siH(x:List Tbl)(i:Nat):Za:=[.cells [.rows (x.map Zc)],.cells [I (i:Int)]]
theorem ZsD(x:List Tbl)(i:Nat)(t:Tbl)(hi:i+1≤1000000)(c:x[i]?=some t):R K (.call 187 [.ptr 0 0,.ptr 1 0] (siH x (i+1)))=some (.str t.nm,siH x (i+1)):=by have d:=Zmq hi;have b:=YF c;simp only[Zc]at b;rw[Zv7];simp only[go_sem,simprocAttr,f187,d,b]
theorem Zsz(x:List Tbl)(i:Nat)(t:Tbl)(hi:i+1≤1000000)(c:x[i]?=some t):ZU nlA (R K) (siH x (i+1)) [] (.fn 187 [.ptr 0 0,.ptr 1 0])=some (.str t.nm,siH x (i+1)):=by have b:=ZsD x i t hi c;simp only[siH]at b ⊢;simp only[go_sem,simprocAttr,b]
theorem ZA0(x:List Tbl)(h:x.length≤1000000)(i:Nat)(t:Tbl)(c:FitT t)(d:x[i]?=some t):R K (.call 186 [.str t.nm,I (i:Int),.fn 187 [.ptr 0 0,.ptr 1 0]] (siH x i))=some (I (Q9 t.nm (JQ (x.map (·.nm)) i) (i==0)),siH x i):=by
 have f:=(Vb.1 d).1;refine Zcy _ _ _ _ _ c.nm rfl fun hi=>?_;obtain⟨j,rfl⟩:∃j,i=j+1:=⟨i-1,by omega⟩;obtain⟨g,b⟩:=Zu (l:=x) (i:=j) (by omega);have e:JQ (x.map (·.nm)) (j+1)=g.nm:=by simp[JQ,b]
 rw[e];exact Zsz x j g (by omega) b
def Zm4(t:Tbl):Bool:=decide (60<t.cols.length)||(decide (8<t.key.length)||(decide (20<t.fgn.length)||decide (20<t.idx.length)))
def XA(x:List Tbl)(i:Nat):Int:=match x[i]? with
 |some t=>orE (Q9 t.nm (JQ (x.map (·.nm)) i) (i==0)) (if Zm4 t=true then 2 else evE (ZaT t) 0 4)
 |none=>0
theorem Zza(x:List Tbl)(p:x.length≤1000000)(i:Nat)(t:Tbl)(f:FitT t)(d:x[i]?=some t):R K (.call 111 [ZX x,I (i:Int)] [])=some (I (XA x i),[]):=by
 have b:=ZA0 x p i t f d;have h2:=Zx5 t f false;have c:=YF d;unfold XA;rw[d];simp only;generalize Q9 t.nm (JQ (x.map (·.nm)) i) (i==0)=y at *;generalize evE (ZaT t) 0 4=z at *;simp only[Zc,siH,foH]at b h2 c;by_cases e:y=0
 ·subst e;have g:decide ((60:Int)<(t.cols.length:Int))=decide (60<t.cols.length):=by congr 1;simp only[Sm];omega
  have h:decide ((8:Int)<(t.key.length:Int))=decide (8<t.key.length):=by congr 1;simp only[Sm];omega
  have k:decide ((20:Int)<(t.fgn.length:Int))=decide (20<t.fgn.length):=by congr 1;simp only[Sm];omega
  have o:decide ((20:Int)<(t.idx.length:Int))=decide (20<t.idx.length):=by congr 1;simp only[Sm];omega
  unfold Zm4;generalize decide (60<t.cols.length)=r at *;generalize decide (8<t.key.length)=u at *;generalize decide (20<t.fgn.length)=v at *;generalize decide (20<t.idx.length)=w at *;rw[Zm9];simp only[go_sem,simprocAttr,f111,c,b,bne,Vd,g,h,k,o,h2,ne_eq,PJ,or_true,reduceCtorEq]
  repeat' ((first|apply ZG|apply ZK|apply ZT)<;>intro q<;>simp only[q,go_sem,simprocAttr,c,b,bne,Vd,g,h,k,o,h2,ne_eq,PJ,or_true,reduceCtorEq])
  ·simp_all[orE]
  ·simp_all[orE]
  ·simp_all[orE]
  ·simp_all[orE]
  simp_all[orE]
 have dy:(y==0)=false:=by simpa using e
 rw[Zm9];simp only[go_sem,simprocAttr,f111,c,b,bne,dy]
 all_goals simp[orE,e]
structure FitX(x:List Tbl):Prop where
 len:x.length≤1000000
 tbl:∀t∈x,FitT t
abbrev xH(x:List Tbl):Za:=[.cells [.rows (x.map Zc)]]
theorem ZEl(x:List Tbl)(b:FitX x)(i:Nat)(hi:i<x.length):R K (.call 110 [I (i:Int),.ptr 0 0] (xH x))=some (I (XA x i),xH x):=by obtain⟨t,c⟩:=Zu hi;have d:=Zza x b.len i t (b.tbl t (Ve c)) c;rw[ZvP];simp only[go_sem,simprocAttr,f110,d]
theorem ZD6(x:List Tbl)(c:FitX x):ZdC (xH x) (.fn 110 [.ptr 0 0]) (XA x) x.length:=fun i hi=>by have b:=ZEl x c i hi;simp only[xH]at b ⊢;simp only[go_sem,simprocAttr,b]
theorem ZDV(x:List Tbl)(b:FitX x):R K (.call 108 [.ptr 0 0] (xH x))=some (I (evE (XA x) 0 x.length),xH x):=by have hi:=Za2 _ (xH x) (XA x) x.length b.len rfl (ZD6 x b);simp only[xH]at hi;rw[Zum];simp only[go_sem,simprocAttr,f108,hi,Vd]
def XM(t:Tbl)(l:List (List UInt8)):Prop:=∀n∈l,¬ixN n (t.cols.map (·.nm)) 0<0
def ZjI(t:Tbl)(n:List UInt8):Option Col:=t.cols[(ixN n (t.cols.map (·.nm)) 0).toNat]?
def kdE(t u:Tbl)(l k:List (List UInt8))(i:Nat):Int:=match l[i]?,k[i]? with
 |some a,some b=>(match ZjI t a,ZjI u b with
  |some c,some d=>if c.kd=d.kd then 0 else 8
  |_,_=>0)
 |_,_=>0
abbrev frH(t:Tbl)(f:Fgn)(u:Tbl):Za:=[.cells (Zc t),.cells (Z7 f),.cells (Zc u)]
theorem ZD2(t u:Tbl)(G:FitT t)(H:FitT u)(f:Fgn)(i:Nat)(hi:i<f.cols.length)(J:i<u.key.length)(M:XM t f.cols)(h2:XM u u.key):
  R K (.call 201 [I (i:Int),.ptr 0 0,.ptr 1 0,.ptr 2 0] (frH t f u))=some (I (kdE t u f.cols u.key i),frH t f u):=by
 obtain⟨a,k⟩:=Zu hi;obtain⟨b,o⟩:=Zu J;obtain⟨p,c,y,A⟩:=J0 (M a (Ve k));obtain⟨q,d,C,D⟩:=J0 (h2 b (Ve o));have E:=J6 k;have F:=J6 o;have e:=ZbT t a G.cols;have g:=ZbT u b H.cols;rw[y]at e;rw[C]at g;have r:=Ym A;have v:=Ym D;have N:ZjI t a=some c:=by unfold ZjI;rw[y,Vk,A]
 have O:ZjI u b=some d:=by unfold ZjI;rw[C,Vk,D]
 unfold kdE;rw[k,o];simp only;rw[N,O];simp only;simp only[Yk,Zc,Zh]at e g r v;by_cases h:c.kd=d.kd
 ·have w:(c.kd==d.kd)=true:=by simpa using h
  rw[ZmY];simp only[go_sem,simprocAttr,f201,Zc,Z7,E,F,e,g,r,v,bne,w];simp[h,Zc,Z7]
 have w:(c.kd==d.kd)=false:=by simpa using h
 rw[ZmY];simp only[go_sem,simprocAttr,f201,Zc,Z7,E,F,e,g,r,v,bne,w];simp[h,Zc,Z7]
theorem ZDP(t u:Tbl)(c:FitT t)(d:FitT u)(f:Fgn)(g:f.cols.length=u.key.length)(e:XM t f.cols)(h2:XM u u.key):
  ZdC (frH t f u) (.fn 201 [.ptr 0 0,.ptr 1 0,.ptr 2 0]) (kdE t u f.cols u.key) f.cols.length:=fun i hi=>by
 have b:=ZD2 t u c d f i hi (by omega) e h2;simp only[frH,Zc,Z7]at b ⊢;simp only[go_sem,simprocAttr,b]
theorem Zmj{n:List UInt8}(h:¬ixN n (x.map (·.nm)) 0<0):∃(a:Nat) (c:Tbl),ixN n (x.map (·.nm)) 0=(a:Int)∧x[a]?=some c:=by have b:=Zpl n (x.map (·.nm)) 0;rw[Vd]at b;obtain⟨a,d⟩:=UW (Int.not_lt.1 h);exact⟨a,x[a]'(by omega),d,VB _⟩
def ZsB(x:List Tbl)(t:Tbl)(f:Fgn):Int:=if ixN f.tb (x.map (·.nm)) 0<0 then 5 else match x[(ixN f.tb (x.map (·.nm)) 0).toNat]? with
 |some u=>if f.cols.length=u.key.length then evE (kdE t u f.cols u.key) 0 f.cols.length else 3
 |none=>0
theorem ZrD(x:List Tbl)(h:FitX x)(t:Tbl)(q:FitT t)(f:Fgn)(r:f.cols.length≤1000000)(v:XM t f.cols)(w:∀u∈x,XM u u.key):
  R K (.call 115 [ZX x,Yk t,.agg (Z7 f)] [])=some (I (ZsB x t f),[]):=by
 have b:=ZrB x f.tb h.len;unfold ZsB;by_cases c:ixN f.tb (x.map (·.nm)) 0<0
 ·rw[Vr c];rw[ZiJ];simp only[go_sem,simprocAttr,f115,Z7,Zc,b,c]
 obtain⟨a,u,k,e⟩:=Zmj c;have g:=YF e;have o:=Ve e;have p:((a:Int)<0)=False:=Pw (by omega);rw[Vm c,k,Vk,e];rw[k]at b;simp only;simp only[Zc]at g;by_cases d:f.cols.length=u.key.length
 ·have hi:=Za2 _ (frH t f u) (kdE t u f.cols u.key) f.cols.length r rfl (ZDP t u q (h.tbl u o) f d v (w u o));have dl:((f.cols.length:Int)==(u.key.length:Int))=true:=by rw[d,Up]
  simp only[frH,Zc,Z7]at hi;rw[Vr d];rw[ZiJ];simp only[go_sem,simprocAttr,f115,Z7,Zc,b,p,g,Vd,bne,dl,hi]
 have dl:((f.cols.length:Int)==(u.key.length:Int))=false:=by rw[←U2,Up];omega
 rw[Vm d];rw[ZiJ];simp only[go_sem,simprocAttr,f115,Z7,Zc,b,p,g,Vd,bne,dl]
theorem XB{e:Nat→Int}:∀(m j:Nat),evE e j m=0→∀i,j≤i→i<j+m→e i=0
 |0,j,_,i,c,h2=>by omega
 |m+1,j,h,i,c,h2=>by
  simp only[evE]at h;by_cases b:e j=0
  ·rw[Vr b]at h;by_cases hi:i=j
   ·rw[hi];exact b
   exact XB m (j+1) h i (by omega) (by omega)
  rw[Vm b]at h;exact absurd h b
theorem ZcG{a b:Int}(h:orE a b=0):a=0∧b=0:=by
 unfold orE at h;split at h
 ·rename_i c;exact⟨c,h⟩
 rename_i c;exact absurd h c
theorem Zn9{m:Col→Int}(h:QB t l m=0):XM t l:=by intro n d c;obtain⟨i,hi,e⟩:=SG.1 d;have b:=XB l.length 0 h i (by omega) (by omega);unfold W3 at b;rw[VB hi,e]at b;simp only at b;rw[Vr c]at b;simp at b
structure TabOk(t:Tbl):Prop where
 key:XM t t.key
 fg:∀f∈t.fgn,XM t f.cols
theorem Zj9(d:x[i]?=some t)(h:XA x i=0):Q9 t.nm (JQ (x.map (·.nm)) i) (i==0)=0∧TabOk t:=by
 unfold XA at h;rw[d]at h;simp only at h;obtain⟨e,h2⟩:=ZcG h;refine⟨e,?_⟩;split at h2
 ·simp at h2
 have h3:=XB 4 0 h2;have b:=h3 1 (by omega) (by omega);have c:=h3 2 (by omega) (by omega);simp only[ZaT]at b c;constructor
 ·unfold Zl1 at b;split at b
  ·simp at b
  exact Zn9 b
 intro f g;obtain⟨j,k,rfl⟩:=SG.1 g;have:=XB _ 0 c j (by omega) (by omega);unfold Zcb at this;rw[VB k]at this;exact Zn9 (ZcG this).2
def nmA(l:List (List UInt8))(i:Nat):List UInt8:=(l[i]?).getD []
theorem Zik:∀a:List UInt8,Op.bytesLess a a=false
 |[]=>rfl
 |c::r=>by simp[Op.bytesLess,Zik r]
theorem ZxV{b:List UInt8}{first:Bool}(h:Q9 s b first=0):first=true∨Op.bytesLess b s=true:=by
 unfold Q9 at h;split at h
 ·simp at h
 split at h
 ·simp at h
 rename_i h2;cases first with
 |true=>exact .inl rfl
 |false =>
  refine .inr ?_;have h3:¬(Op.bytesLess s b=true∨s=b):=fun e=>h2 ⟨rfl,e⟩;have c:s≠b:=fun e=>h3 (.inr e);have d:Op.bytesLess s b=false:=by
   cases e:Op.bytesLess s b with
   |false=>rfl
   |true=>exact absurd (.inl e) h3
  rw[Zi9 b s (Ne.symm c),d];rfl
theorem Zca{l:List (List UInt8)}(h:∀i,i<l.length→Q9 (nmA l i) (JQ l i) (i==0)=0)(i:Nat):∀j,i<j→j<l.length→Op.bytesLess (nmA l i) (nmA l j)=true
 |0,b,_=>by omega
 |j+1,b,h2=>by
  have h3:Op.bytesLess (nmA l j) (nmA l (j+1))=true:=(ZxV (h (j+1) h2)).resolve_left (by simp);by_cases e:i=j
  ·rw[e];exact h3
  exact ZhA _ _ _ (Zca h i j (by omega) (by omega)) h3
theorem ZrP(h:∀i,i<l.length→Q9 (nmA l i) (JQ l i) (i==0)=0)(hi:i<l.length)(c:j<l.length)(e:nmA l i=nmA l j):i=j:=by
 rcases PK i j with b|b|b
 ·have:=Zca h i j b c;rw[e,Zik]at this;simp at this
 ·exact b
 have:=Zca h j i b hi;rw[e,Zik]at this;simp at this
def fkE(x:List Tbl)(t:Tbl)(k:Nat):Int:=match t.fgn[k]? with
 |some f=>ZsB x t f
 |none=>0
def JV(x:List Tbl)(i:Nat):Int:=match x[i]? with
 |some t=>evE (fkE x t) 0 t.fgn.length
 |none=>0
def Zg4(x:List Tbl):Nat→Int
 |0=>evE (XA x) 0 x.length
 |1=>evE (JV x) 0 x.length
 |_=>0
def X8(x:List Tbl):Int:=if 60<x.length then 2 else evE (Zg4 x) 0 2
structure RightX(x:List Tbl):Prop where
 inj:∀i j,i<x.length→j<x.length→nmA (x.map (·.nm)) i=nmA (x.map (·.nm)) j→i=j
 ok:∀t∈x,TabOk t
 leads:∀t∈x,∀f∈t.fgn,¬ixN f.tb (x.map (·.nm)) 0<0
theorem Zbn(h:evE (XA x) 0 x.length=0):(∀i,i<x.length→Q9 (nmA (x.map (·.nm)) i) (JQ (x.map (·.nm)) i) (i==0)=0)∧∀t∈x,TabOk t:=by
 have b:=XB _ 0 h;constructor
 ·intro i hi;have:=(Zj9 (VB hi) (b i (by omega) (by omega))).1;have e:nmA (x.map (·.nm)) i=(x[i]).nm:=by simp[nmA,hi]
  rw[e];exact this
 intro t c;obtain⟨i,hi,rfl⟩:=SG.1 c;exact(Zj9 (VB hi) (b i (by omega) (by omega))).2
theorem Zsw(h:X8 x=0):RightX x:=by
 unfold X8 at h;split at h
 ·simp at h
 have g:=XB 2 0 h;have o:=g 0 (by omega) (by omega);have p:=g 1 (by omega) (by omega);simp only[Zg4]at o p;obtain⟨q,r⟩:=Zbn o;refine⟨fun i j hi u e=>ZrP (by simpa using q) (by simpa using hi) (by simpa using u) e,r,?_⟩;intro t v f w c;obtain⟨i,hi,rfl⟩:=SG.1 v;obtain⟨k,y,rfl⟩:=SG.1 w;have d:=XB _ 0 p i (by omega) (by omega);unfold JV at d;rw[VB hi]at d;have b:=XB _ 0 d k (by omega) (by omega);unfold fkE at b;rw[VB y]at b;simp only[ZsB]at b;rw[Vr c]at b;simp at b
abbrev xtH(x:List Tbl)(t:Tbl):Za:=[.cells [.rows (x.map Zc)],.cells (Zc t)]
theorem ZEL(x:List Tbl)(h:FitX x)(t:Tbl)(c:FitT t)(k:∀f∈t.fgn,XM t f.cols)(o:∀u∈x,XM u u.key)(i:Nat)(hi:i<t.fgn.length):
  R K (.call 114 [I (i:Int),.ptr 0 0,.ptr 1 0] (xtH x t))=some (I (fkE x t i),xtH x t):=by
 obtain⟨f,b⟩:=Zu hi;have d:=ZbD b;have e:=Ve b;have g:=ZrD x h t c f (c.fg f e).2 (k f e) o;unfold fkE;rw[b];simp only;simp only[Yk,Zc,Z7]at d g;rw[Zu5];simp only[go_sem,simprocAttr,f114,Zc,d,g];rfl
theorem ZEj(x:List Tbl)(c:FitX x)(t:Tbl)(d:FitT t)(e:∀f∈t.fgn,XM t f.cols)(g:∀u∈x,XM u u.key):ZdC (xtH x t) (.fn 114 [.ptr 0 0,.ptr 1 0]) (fkE x t) t.fgn.length:=fun i hi=>by have b:=ZEL x c t d e g i hi;simp only[xtH,Zc]at b ⊢;simp only[go_sem,simprocAttr,b]
theorem ZDI(x:List Tbl)(b:FitX x)(e:∀t∈x,TabOk t)(i:Nat)(hi:i<x.length):
  R K (.call 113 [I (i:Int),.ptr 0 0] (xH x))=some (I (JV x i),xH x):=by
 obtain⟨t,c⟩:=Zu hi;have d:=Ve c;have f:=YF c;have g:=Za2 _ (xtH x t) (fkE x t) t.fgn.length (b.tbl t d).fgn rfl (ZEj x b t (b.tbl t d) (e t d).fg fun u h=>(e u h).key);unfold JV;rw[c];simp only;simp only[xtH,Zc]at g f;rw[Zub];simp only[go_sem,simprocAttr,f113,f,g,Vd]
theorem ZDJ(x:List Tbl)(c:FitX x)(d:∀t∈x,TabOk t):ZdC (xH x) (.fn 113 [.ptr 0 0]) (JV x) x.length:=fun i hi=>by have b:=ZDI x c d i hi;simp only[xH]at b ⊢;simp only[go_sem,simprocAttr,b]
theorem ZEm(x:List Tbl)(b:FitX x)(c:∀t∈x,TabOk t):R K (.call 112 [.ptr 0 0] (xH x))=some (I (evE (JV x) 0 x.length),xH x):=by have hi:=Za2 _ (xH x) (JV x) x.length b.len rfl (ZDJ x b c);simp only[xH]at hi;rw[ZvC];simp only[go_sem,simprocAttr,f112,hi,Vd]
abbrev csH(x:List Tbl)(w:Bool):Za:=[.rows 1 [[.fn 108 [.ptr 1 0]],[.fn 112 [.ptr 1 0]]] w,.cells [.rows (x.map Zc)]]
theorem ZCi(x:List Tbl)(d:FitX x)(w:Bool):R K (.call 107 [.own 0 2] (csH x w))=some (I (evE (Zg4 x) 0 2),csH x w):=by
 refine ZqN (csH x w) 0 w [.fn 108 [.ptr 1 0],.fn 112 [.ptr 1 0]] 2 (Zg4 x) rfl (by omega) rfl rfl ?_;intro j f h b;have e:=ZDV x d;simp only[xH]at e
 match j,b with
 |0,b =>
  simp only[Vt,Va]at b;subst b;simp only[csH,Zg4];simp only[go_sem,simprocAttr,e]
 |1,b =>
  simp only[VJ,Vt,Va]at b;subst b;have c:=h 0 (by omega);simp only[Zg4]at c;have g:=ZEm x d (Zbn c).2;simp only[xH]at g;simp only[csH,Zg4];simp only[go_sem,simprocAttr,g]
 |j+2,b=>simp at b
theorem YZ(x:List Tbl)(c:FitX x):R K (.call 51 [ZX x] [])=some (I (X8 x),[]):=by
 have h2:=ZCi x c false;have e:=c.len;unfold X8;generalize evE (Zg4 x) 0 2=z at *;simp only[csH]at h2;by_cases b:60<x.length
 ·have d:((60:Int)<(x.length:Int))=True:=V5 (by omega);rw[Vr b];rw[Zq1];simp only[go_sem,simprocAttr,f51,Vd,d]
 have d:((60:Int)<(x.length:Int))=False:=Pw (by omega);rw[Vm b];rw[Zq1];simp only[go_sem,simprocAttr,f51,Vd,d,h2,ne_eq,PJ,or_true,reduceCtorEq]
abbrev Zbl:Col→Int:=fun _=>0
theorem Zgp{n:List UInt8}(b:l[j]?=some n):W3 t l Zbl j=if ixN n (t.cols.map (·.nm)) 0<0 then 5 else if(l.take j).contains n=true then 6 else 0:=by
 unfold W3;rw[b];simp only;split
 ·rfl
 split
 ·rfl
 split<;>rfl
theorem QK{e:Nat→Int}{q:Nat}(h:e j=0):evE e j (q+1)=evE e (j+1) q:=by simp only[evE];rw[Vr h]
theorem YM{e:Nat→Int}{q:Nat}(h:e j≠0):evE e j (q+1)=e j:=by simp only[evE];rw[Vm h]
theorem Zc5(t:Tbl)(o:t.cols.length≤1000000)(l:List (List UInt8))(y:l.length≤1000000)(ks:List It):∀(q j:Nat) (i:Int) (e:Code),YP f99 0 e→i=(j:Int)→l.length=j+q →
  RL K (.run 99 0 (.code e::.lp e (some ([1,2,7,8,9],[])) 1::.blk 0 1::ks) [(1,.rows (SLs l)),(2,.ptr 0 0),(7,.rows (SLs l)),(8,I (l.length:Int)),(9,I i)] (tbH t)) =
  if evE (W3 t l Zbl) j q=0 then R K (.run 99 0 ks [] (tbH t))else some (I (evE (W3 t l Zbl) j q),[])
 |0,j,i,e,b,hi,A=>by
  subst hi;have d:¬(j:Int)<(l.length:Int):=by omega
  simp only[go_sem,simprocAttr,f99]at b;subst b;rw[Ze];simp only[go_sem,simprocAttr,d,evE]
 |q+1,j,i,e,b,hi,A=>by
  subst hi;have h:=b;have d:(j:Int)<(l.length:Int):=by omega
  have C:Zx .i64 ((j:Int)+1)=((j+1:Nat):Int):=ZQ (n:=l.length) (by omega) (by omega);obtain⟨n,p⟩:=Zu (l:=l) (i:=j) (by omega);have k:=J6 p;have h2:=Y9 t n o;have h3:=YR n (l.take j) (by simp;omega);have r:((j:Int)≤(l.length:Int))=True:=V5 (by omega);have u:((0:Int)≤(j:Int))=True:=V5 (by omega);have c:=Zgp (t:=t) p;have v:=Zc5 t o l y ks q (j+1) _ e h rfl (by omega);simp only[Yk,Zc]at h2;by_cases f:ixN n (t.cols.map (·.nm)) 0<0
  ·rw[Vr f]at c;rw[YM (by rw[c];decide),c,Vm (by decide)];simp only[go_sem,simprocAttr,f99]at b;subst b;rw[Ze];simp only[go_sem,simprocAttr,Zc,d,k,h2,f]
  rw[Vm f]at c;have w:(ixN n (t.cols.map (·.nm)) 0<0)=False:=Pw f;by_cases g:(l.take j).contains n=true
  ·rw[Vr g]at c;rw[g]at h3;rw[YM (by rw[c];decide),c,Vm (by decide)];simp only[go_sem,simprocAttr,f99]at b;subst b;rw[Ze];simp only[go_sem,simprocAttr,Zc,d,k,h2,w,h3,QG,Xc,r,u,Vk,V4,Vd]
  rw[Vm g]at c;rw[Uk.2 g]at h3;rw[QK c];simp only[go_sem,simprocAttr,f99]at b;subst b;rw[Ze];simp only[go_sem,simprocAttr,Zc,d,C,k,h2,w,h3,QG,Xc,r,u,Vk,V4,Vd];simp only[tbH,Zc]at v;rw[v];rfl
theorem Zam(t:Tbl)(c:t.cols.length≤1000000)(l:List (List UInt8))(d:l.length≤1000000):R K (.call 99 [Yk t,.rows (SLs l)] [])=some (I (QB t l Zbl),[]):=by
 have b:=fun ks B e=>Zc5 t c l d ks l.length 0 0 B e rfl (by omega);simp only[tbH,Zc]at b;unfold QB;rw[ZyB];simp only[go_sem,simprocAttr,f99,Zc,Vd];rw[b _ _ ?_]
 ·split
  ·rename_i f;rw[f];simp only[go_sem,simprocAttr]
  rfl
 rfl
theorem Zga(l:List Col)(i:Nat):List.take i (l.map Zh)=(l.take i).map Zh:=by simp[UV]
theorem Qt:∀l:List Col,Y1 6 (l.map Zh)=true
 |[]=>rfl
 |c::l=>by simpa[Y1,Zh]using Qt l
theorem Zwg{l:List Col}{c:Col}(h:l[j]?=some c):decide (0≤ixN c.nm ((l.take j).map (·.nm)) 0)=decide (ixN c.nm (l.map (·.nm)) 0<(j:Int)):=by
 have d:c.nm∈l.map (·.nm):=VE.2 ⟨c,Ve h,rfl⟩;have b:=Zju c.nm (l.map (·.nm)) 0 j d;rw[VZ,←UV]at b;have h2:=Zb5 c.nm ((l.take j).map (·.nm)) 0;congr 1;rw[Sm,b];rcases Zel c.nm ((l.take j).map (·.nm)) 0 with h3|h3
 ·rw[h3];constructor
  ·intro h;omega
  intro h;exact absurd h (h2.1 h3)
 constructor
 ·intro _;refine S9 fun e=>?_;have:=h2.2 e;omega
 intro _;omega
theorem Zrm(t:Tbl)(u:FitT t)(ks:List It):∀(q j:Nat) (i:Int) (h:Code),YP f45 0 h→i=(j:Int)→t.cols.length=j+q →
  RL K (.run 45 0 (.code h::.lp h (some ([1,41,42,43],[])) 1::.blk 0 1::ks) [(1,.ptr 0 0),(41,.rows (t.cols.map Zh)),(42,I (t.cols.length:Int)),(43,I i)] (tbH t)) =
  if evE (Zf6 t) j q=0 then R K (.run 45 0 ks [(1,.ptr 0 0)] (tbH t))else some (I (evE (Zf6 t) j q),[])
 |0,j,i,h,f,hi,F=>by
  subst hi;have d:¬(j:Int)<(t.cols.length:Int):=by omega
  simp only[go_sem,simprocAttr,f45]at f;subst f;rw[Ze];simp only[go_sem,simprocAttr,d,evE]
 |q+1,j,i,h,f,hi,F=>by
  subst hi;have v:=f;have D:=u.cols;have d:(j:Int)<(t.cols.length:Int):=by omega
  have G:Zx .i64 ((j:Int)+1)=((j+1:Nat):Int):=ZQ (n:=t.cols.length) (by omega) (by omega);obtain⟨c,r⟩:=Zu (l:=t.cols) (i:=j) (by omega);have p:=Ym r;have H:c∈t.cols:=Ve r;have w:((j:Int)≤(t.cols.length:Int))=True:=V5 (by omega);have A:((0:Int)≤(j:Int))=True:=V5 (by omega);have o:=Zhd c.nm (u.col c H);have h2:=Y9 ⟨[],t.cols.take j,[],[],[]⟩ c.nm (by simp;omega);have h3:=Zwg r;have C:=Ze4 c.kd c.df.k c.df.n c.df.s;have E:=Zrm t u ks q (j+1) _ h v rfl (by omega);have g:Zf6 t j=if Xw c.nm=false then 5 else if ixN c.nm (t.cols.map (·.nm)) 0<(j:Int)then 6 else QA c.kd c.df:=by unfold Zf6;rw[r]
  simp only[Yk,Zc,Zh,VO]at h2 p;generalize QA c.kd ⟨c.df.k,c.df.n,c.df.s⟩=y at *;by_cases a:Xw c.nm=false
  ·rw[Vr a]at g;rw[a]at o;rw[YM (by rw[g];decide),g,Vm (by decide)];simp only[go_sem,simprocAttr,f45]at f;subst f;rw[Ze];simp only[go_sem,simprocAttr,Zc,d,p,o]
  rw[Vm a]at g;rw[Bool.not_eq_false]at a;rw[a]at o;by_cases b:ixN c.nm (t.cols.map (·.nm)) 0<(j:Int)
  ·rw[Vr b]at g;rw[Pk b]at h3;rw[YM (by rw[g];decide),g,Vm (by decide)];simp only[go_sem,simprocAttr,f45]at f;subst f;rw[Ze];simp only[go_sem,simprocAttr,Zc,d,p,o,h2,h3,Zga,Qt,w,A,Vk,V4,Vd]
  rw[Vm b]at g;rw[Pf b]at h3;by_cases e:y=0
  ·rw[e]at g C;rw[QK g];simp only[go_sem,simprocAttr,f45]at f;subst f;rw[Ze];simp only[go_sem,simprocAttr,Zc,d,G,p,o,h2,h3,C,Zga,Qt,w,A,Vk,V4,Vd,bne];simp only[tbH,Zc]at E;rw[E];rfl
  have J:(y==0)=false:=by simpa using e
  rw[YM (by rw[g];exact e),g,Vm e];simp only[go_sem,simprocAttr,f45]at f;subst f;rw[Ze];simp only[go_sem,simprocAttr,Zc,d,p,o,h2,h3,C,Zga,Qt,w,A,Vk,V4,Vd,bne,J]
theorem Zo9{n:List UInt8}(b:l[j]?=some n):W3 t l ZjH j=if ixN n (t.cols.map (·.nm)) 0<0 then 5 else if(l.take j).contains n=true then 6 else(match t.cols[(ixN n (t.cols.map (·.nm)) 0).toNat]? with
  |some c=>ZjH c
  |none=>0):=by
 unfold W3;rw[b]
 try rfl
theorem ZuF(t:Tbl)(r:FitT t)(ks:List It):∀(q j:Nat) (i:Int) (h:Code),YP f45 3 h→i=(j:Int)→t.key.length=j+q →
  RL K (.run 45 0 (.code h::.lp h (some ([1,77,78,79],[])) 1::.blk 3 1::ks) [(1,.ptr 0 0),(77,.rows (SLs t.key)),(78,I (t.key.length:Int)),(79,I i)] (tbH t)) =
  if evE (W3 t t.key ZjH) j q=0 then R K (.run 45 0 ks [(1,.ptr 0 0)] (tbH t))else some (I (evE (W3 t t.key ZjH) j q),[])
 |0,j,i,h,g,hi,G=>by
  subst hi;have d:¬(j:Int)<(t.key.length:Int):=by omega
  simp only[go_sem,simprocAttr,f45]at g;subst g;rw[Ze];simp only[go_sem,simprocAttr,d,evE]
 |q+1,j,i,h,g,hi,G=>by
  subst hi;have u:=g;have A:=r.key;have d:(j:Int)<(t.key.length:Int):=by omega
  have H:Zx .i64 ((j:Int)+1)=((j+1:Nat):Int):=ZQ (n:=t.key.length) (by omega) (by omega);obtain⟨n,C⟩:=Zu (l:=t.key) (i:=j) (by omega);have o:=J6 C;have h2:=Y9 t n r.cols;have h3:=YR n (t.key.take j) (by simp;omega);have v:((j:Int)≤(t.key.length:Int))=True:=V5 (by omega);have w:((0:Int)≤(j:Int))=True:=V5 (by omega);have f:=Zo9 (t:=t) C;have D:=ZuF t r ks q (j+1) _ h u rfl (by omega);simp only[Yk,Zc]at h2;by_cases p:ixN n (t.cols.map (·.nm)) 0<0
  ·rw[Vr p]at f;rw[YM (by rw[f];decide),f,Vm (by decide)];simp only[go_sem,simprocAttr,f45]at g;subst g;rw[Ze];simp only[go_sem,simprocAttr,Zc,d,o,h2,p]
  obtain⟨a,c,E,F⟩:=J0 p;have k:=Ym F;rw[Vm p,E,Vk,F]at f;simp only at f;rw[E]at h2;have y:((a:Int)<0)=False:=Pw (by omega);simp only[Zh]at k;by_cases b:(t.key.take j).contains n=true
  ·rw[Vr b]at f;rw[b]at h3;rw[YM (by rw[f];decide),f,Vm (by decide)];simp only[go_sem,simprocAttr,f45]at g;subst g;rw[Ze];simp only[go_sem,simprocAttr,Zc,d,o,h2,y,h3,QG,Xc,v,w,Vk,V4,Vd]
  rw[Vm b]at f;rw[Uk.2 b]at h3;rw[show ZjH c=if c.nl=true then 9 else 0 from rfl]at f;by_cases e:c.nl=true
  ·rw[Vr e]at f;rw[e]at k;rw[YM (by rw[f];decide),f,Vm (by decide)];simp only[go_sem,simprocAttr,f45]at g;subst g;rw[Ze];simp only[go_sem,simprocAttr,Zc,d,o,h2,y,h3,k,QG,Xc,v,w,Vk,V4,Vd]
  rw[Vm e]at f;rw[Uk.2 e]at k;rw[QK f];simp only[go_sem,simprocAttr,f45]at g;subst g;rw[Ze];simp only[go_sem,simprocAttr,Zc,d,H,o,h2,y,h3,k,QG,Xc,v,w,Vk,V4,Vd];simp only[tbH,Zc]at D;rw[D];rfl
theorem Zhu(h:j≤1000000):(if Zx .i64 ((j:Int)-1)<0 then(0:Int)else Zx .i64 ((j:Int)-1))=((j-1:Nat):Int):=by rw[Zq (by omega) (by omega)];split<;>omega
theorem ZlO{f:α→List UInt8}{l:List α}{g:α}(h:l[j-1]?=some g):JQ (l.map f) j=f g:=by simp[JQ,h]
theorem ZtF(t:Tbl)(o:FitT t)(ks:List It):∀(q j:Nat) (i:Int) (k:Code),YP f45 6 k→i=(j:Int)→t.fgn.length=j+q →
  RL K (.run 45 0 (.code k::.lp k (some ([1,106,107,108],[])) 1::.blk 6 1::ks) [(1,.ptr 0 0),(106,.rows (t.fgn.map Z7)),(107,I (t.fgn.length:Int)),(108,I i)] (tbH t)) =
  if evE (Zcb t) j q=0 then R K (.run 45 0 ks [(1,.ptr 0 0)] (tbH t))else some (I (evE (Zcb t) j q),[])
 |0,j,i,k,c,hi,J=>by
  subst hi;have d:¬(j:Int)<(t.fgn.length:Int):=by omega
  simp only[go_sem,simprocAttr,f45]at c;subst c;rw[Ze];simp only[go_sem,simprocAttr,d,evE]
 |q+1,j,i,k,c,hi,J=>by
  subst hi;have w:=c;have F:=o.fgn;have d:(j:Int)<(t.fgn.length:Int):=by omega
  have M:Zx .i64 ((j:Int)+1)=((j+1:Nat):Int):=ZQ (n:=t.fgn.length) (by omega) (by omega);obtain⟨f,A⟩:=Zu (l:=t.fgn) (i:=j) (by omega);obtain⟨g,p⟩:=Zu (l:=t.fgn) (i:=j-1) (by omega);have u:=ZbD A;have e:=ZbD p;have G:=Ve A;have N:JQ (t.fgn.map (·.nm)) j=g.nm:=ZlO (f:=(·.nm)) p;have h:=Zhu (j:=j) (by omega);have C:((j:Int)==0)=(j==0):=by rw[UE,Up,Up];omega
  have D:=ZfW f.nm g.nm (j==0) (o.fg f G).1;have h2:=Zam t o.cols f.cols (o.fg f G).2;have H:=ZtF t o ks q (j+1) _ k w rfl (by omega);have E:Zcb t j=orE (Q9 f.nm g.nm (j==0)) (QB t f.cols Zbl):=by unfold Zcb;rw[A];simp only;rw[N]
  simp only[Yk,Zc,Z7]at h2 u e;generalize Q9 f.nm g.nm (j==0)=y at *;generalize QB t f.cols Zbl=z at *;by_cases r:y=0
  ·subst r;by_cases v:z=0
   ·subst v;rw[QK E];simp only[go_sem,simprocAttr,f45]at c;subst c;rw[Ze];simp only[go_sem,simprocAttr,Zc,d,M,u,e,h,C,D,h2,bne];simp only[tbH,Zc]at H;rw[H];rfl
   have O:(z==0)=false:=by simpa using v
   have b:Zcb t j=z:=E;rw[YM (by rw[b];exact v),b,Vm v];simp only[go_sem,simprocAttr,f45]at c;subst c;rw[Ze];simp only[go_sem,simprocAttr,Zc,d,u,e,h,C,D,h2,bne,O]
  have dy:(y==0)=false:=by simpa using r
  have b:Zcb t j=y:=by rw[E];unfold orE;rw[Vm r]
  rw[YM (by rw[b];exact r),b,Vm r];simp only[go_sem,simprocAttr,f45]at c;subst c;rw[Ze];simp only[go_sem,simprocAttr,Zc,d,u,e,h,C,D,bne,dy]
theorem Zuq(t:Tbl)(u:FitT t)(ks:List It):∀(q j:Nat) (i:Int) (p:Code),YP f45 8 p→i=(j:Int)→t.idx.length=j+q →
  RL K (.run 45 0 (.code p::.lp p (some ([1,138,139,140],[])) 1::.blk 8 1::ks) [(1,.ptr 0 0),(138,.rows (t.idx.map Yq)),(139,I (t.idx.length:Int)),(140,I i)] (tbH t)) =
  if evE (Zbf t) j q=0 then R K (.run 45 0 ks [] (tbH t))else some (I (evE (Zbf t) j q),[])
 |0,j,i,p,e,hi,O=>by
  subst hi;have d:¬(j:Int)<(t.idx.length:Int):=by omega
  simp only[go_sem,simprocAttr,f45]at e;subst e;rw[Ze];simp only[go_sem,simprocAttr,d,evE]
 |q+1,j,i,p,e,hi,O=>by
  subst hi;have G:=e;have J:=u.idx;have d:(j:Int)<(t.idx.length:Int):=by omega
  have P:Zx .i64 ((j:Int)+1)=((j+1:Nat):Int):=ZQ (n:=t.idx.length) (by omega) (by omega);obtain⟨f,H⟩:=Zu (l:=t.idx) (i:=j) (by omega);obtain⟨g,v⟩:=Zu (l:=t.idx) (i:=j-1) (by omega);have r:=Zft H;have h:=Zft v;have M:=Ve H;have Q:JQ (t.idx.map (·.nm)) j=g.nm:=ZlO (f:=(·.nm)) v;have k:=Zhu (j:=j) (by omega);have w:((j:Int)==0)=(j==0):=by rw[UE,Up,Up];omega
  have A:=ZfW f.nm g.nm (j==0) (u.ix f M).1;have h2:=Zam t u.cols f.cols (u.ix f M).2;have N:=Zuq t u ks q (j+1) _ p G rfl (by omega);have o:Zbf t j=orE (Q9 f.nm g.nm (j==0)) (if f.cols.length=0 then 3 else if 8<f.cols.length then 2 else QB t f.cols Zbl):=by unfold Zbf;rw[H];simp only;rw[Q]
  simp only[Yk,Zc,Yq]at h2 r h;generalize Q9 f.nm g.nm (j==0)=y at *;generalize QB t f.cols Zbl=z at *;by_cases C:y=0
  ·subst C;by_cases a:f.cols.length=0
   ·have D:((f.cols.length:Int)==0)=true:=by simp[a]
    have c:Zbf t j=3:=by rw[o,Vr a];rfl
    rw[YM (by rw[c];decide),c,Vm (by decide)];simp only[go_sem,simprocAttr,f45]at e;subst e;rw[Ze];simp only[go_sem,simprocAttr,Zc,d,r,h,k,w,A,bne,Vd,D]
   have D:((f.cols.length:Int)==0)=false:=by rw[←U2,Up];omega
   rw[Vm a]at o;by_cases b:8<f.cols.length
   ·have E:((8:Int)<(f.cols.length:Int))=True:=V5 (by omega);have c:Zbf t j=2:=by rw[o,Vr b];rfl
    rw[YM (by rw[c];decide),c,Vm (by decide)];simp only[go_sem,simprocAttr,f45]at e;subst e;rw[Ze];simp only[go_sem,simprocAttr,Zc,d,r,h,k,w,A,bne,Vd,D,E]
   have E:((8:Int)<(f.cols.length:Int))=False:=Pw (by omega);rw[Vm b]at o;by_cases F:z=0
   ·subst F;rw[QK o];simp only[go_sem,simprocAttr,f45]at e;subst e;rw[Ze];simp only[go_sem,simprocAttr,Zc,d,P,r,h,k,w,A,h2,bne,Vd,D,E];simp only[tbH,Zc]at N;rw[N];rfl
   have S:(z==0)=false:=by simpa using F
   have c:Zbf t j=z:=o;rw[YM (by rw[c];exact F),c,Vm F];simp only[go_sem,simprocAttr,f45]at e;subst e;rw[Ze];simp only[go_sem,simprocAttr,Zc,d,r,h,k,w,A,h2,bne,Vd,D,E,S]
  have dy:(y==0)=false:=by simpa using C
  have c:Zbf t j=y:=by rw[o];unfold orE;rw[Vm C]
  rw[YM (by rw[c];exact C),c,Vm C];simp only[go_sem,simprocAttr,f45]at e;subst e;rw[Ze];simp only[go_sem,simprocAttr,Zc,d,r,h,k,w,A,bne,dy]
theorem ZvA(t:Tbl):evE (ZaT t) 0 4=if evE (Zf6 t) 0 t.cols.length=0 then(if Zl1 t=0 then(if evE (Zcb t) 0 t.fgn.length=0 then evE (Zbf t) 0 t.idx.length else evE (Zcb t) 0 t.fgn.length)else Zl1 t)else evE (Zf6 t) 0 t.cols.length:=by
 have e:evE (ZaT t) 0 4=if ZaO t=0 then(if Zl1 t=0 then(if evE (Zcb t) 0 t.fgn.length=0 then(if evE (Zbf t) 0 t.idx.length=0 then 0 else evE (Zbf t) 0 t.idx.length)else evE (Zcb t) 0 t.fgn.length)else Zl1 t)else ZaO t:=rfl;rw[e];unfold ZaO;generalize evE (Zbf t) 0 t.idx.length=z;have b:(if z=0 then 0 else z)=z:=by split<;>simp_all
 rw[b]
theorem Zlu(t:Tbl)(c:FitT t):R K (.call 45 [Yk t] [])=some (I (if Zm4 t=true then 2 else evE (ZaT t) 0 4),[]):=by
 have u:=fun ks B b=>Zrm t c ks t.cols.length 0 0 B b rfl (by omega);have v:=fun ks B b=>ZuF t c ks t.key.length 0 0 B b rfl (by omega);have w:=fun ks B b=>ZtF t c ks t.fgn.length 0 0 B b rfl (by omega);have y:=fun ks B b=>Zuq t c ks t.idx.length 0 0 B b rfl (by omega);simp only[tbH,Zc]at u v w y;have h:decide ((60:Int)<(t.cols.length:Int))=decide (60<t.cols.length):=by congr 1;simp only[Sm];omega
 have k:decide ((8:Int)<(t.key.length:Int))=decide (8<t.key.length):=by congr 1;simp only[Sm];omega
 have o:decide ((20:Int)<(t.fgn.length:Int))=decide (20<t.fgn.length):=by congr 1;simp only[Sm];omega
 have p:decide ((20:Int)<(t.idx.length:Int))=decide (20<t.idx.length):=by congr 1;simp only[Sm];omega
 rw[ZvA];cases d:Zm4 t with
 |true =>
  unfold Zm4 at d;generalize decide (60<t.cols.length)=A at *;generalize decide (8<t.key.length)=C at *;generalize decide (20<t.fgn.length)=D at *;generalize decide (20<t.idx.length)=E at *;rw[ZqQ];simp only[go_sem,simprocAttr,f45,Zc,Vd,h,k,o,p]
  repeat' ((first|apply ZG|apply ZK|apply ZT)<;>intro F<;>simp only[F,go_sem,simprocAttr,Zc,Vd,h,k,o,p])
  all_goals simp_all
 |false =>
  unfold Zm4 at d;simp only[Bool.or_eq_false_iff]at d;obtain⟨A,C,D,E⟩:=d;rw[Vm (by decide)];rw[ZqQ];simp only[go_sem,simprocAttr,f45,Zc,Vd,h,k,o,p,A,C,D,E];rw[u _ _ ?_]
  ·by_cases e:evE (Zf6 t) 0 t.cols.length=0
   ·rw[Vr e,Vr e];unfold Zl1;by_cases a:t.key.length=0
    ·have q:((t.key.length:Int)==0)=true:=by simp[a]
     simp only[go_sem,simprocAttr,Vd,q];simp[a]
    have q:((t.key.length:Int)==0)=false:=by rw[←U2,Up];omega
    rw[Vm a];unfold QB;simp only[go_sem,simprocAttr,Vd,q];rw[v _ _ ?_]
    ·by_cases f:evE (W3 t t.key ZjH) 0 t.key.length=0
     ·rw[Vr f,Vr f];simp only[go_sem,simprocAttr,Vd];rw[w _ _ ?_]
      ·by_cases g:evE (Zcb t) 0 t.fgn.length=0
       ·rw[Vr g,Vr g];simp only[go_sem,simprocAttr,Vd];rw[y _ _ ?_]
        ·by_cases r:evE (Zbf t) 0 t.idx.length=0
         ·rw[Vr r,r];simp only[go_sem,simprocAttr]
         rw[Vm r]
        rfl
       rw[Vm g,Vm g]
      rfl
     rw[Vm f,Vm f]
    rfl
   rw[Vm e,Vm e]
  rfl
theorem ZzU(x:List Tbl)(v:FitX x)(ks:List It):∀(q j:Nat) (i:Int) (k:Code),YP f20 0 k→i=(j:Int)→x.length=j+q →
  RL K (.run 20 0 (.code k::.lp k (some ([1,19,20,21],[])) 1::.blk 0 1::ks) [(1,.ptr 0 0),(19,.rows (x.map Zc)),(20,I (x.length:Int)),(21,I i)] (xH x)) =
  if evE (XA x) j q=0 then R K (.run 20 0 ks [(1,.ptr 0 0)] (xH x))else some (I (evE (XA x) j q),[])
 |0,j,i,k,c,hi,J=>by
  subst hi;have d:¬(j:Int)<(x.length:Int):=by omega
  simp only[go_sem,simprocAttr,f20]at c;subst c;rw[Ze];simp only[go_sem,simprocAttr,d,evE]
 |q+1,j,i,k,c,hi,J=>by
  subst hi;have w:=c;have F:=v.len;have d:(j:Int)<(x.length:Int):=by omega
  have M:Zx .i64 ((j:Int)+1)=((j+1:Nat):Int):=ZQ (n:=x.length) (by omega) (by omega);obtain⟨t,A⟩:=Zu (l:=x) (i:=j) (by omega);obtain⟨g,o⟩:=Zu (l:=x) (i:=j-1) (by omega);have r:=YF A;have e:=YF o;have G:=v.tbl t (Ve A);have N:JQ (x.map (·.nm)) j=g.nm:=ZlO (f:=(·.nm)) o;have h:=Zhu (j:=j) (by omega);have C:((j:Int)==0)=(j==0):=by rw[UE,Up,Up];omega
  have D:=ZfW t.nm g.nm (j==0) G.nm;have h2:=Zlu t G;have H:=ZzU x v ks q (j+1) _ k w rfl (by omega);have E:XA x j=orE (Q9 t.nm g.nm (j==0)) (if Zm4 t=true then 2 else evE (ZaT t) 0 4):=by unfold XA;rw[A];simp only;rw[N]
  simp only[Yk,Zc]at h2 r e;generalize Q9 t.nm g.nm (j==0)=y at *;generalize(if Zm4 t=true then 2 else evE (ZaT t) 0 4)=z at *;by_cases p:y=0
  ·subst p;by_cases u:z=0
   ·subst u;rw[QK E];simp only[go_sem,simprocAttr,f20]at c;subst c;rw[Ze];simp only[go_sem,simprocAttr,d,M,r,e,h,C,D,h2,bne];simp only[xH]at H;rw[H]
   have O:(z==0)=false:=by simpa using u
   have b:XA x j=z:=E;rw[YM (by rw[b];exact u),b,Vm u];simp only[go_sem,simprocAttr,f20]at c;subst c;rw[Ze];simp only[go_sem,simprocAttr,d,r,e,h,C,D,h2,bne,O]
  have dy:(y==0)=false:=by simpa using p
  have b:XA x j=y:=by rw[E];unfold orE;rw[Vm p]
  rw[YM (by rw[b];exact p),b,Vm p];simp only[go_sem,simprocAttr,f20]at c;subst c;rw[Ze];simp only[go_sem,simprocAttr,d,r,e,h,C,D,bne,dy]
abbrev ZyV(x:List Tbl)(t:Tbl)(f:Fgn):Za:=[.cells [.rows (x.map Zc)],.cells (Zc t),.cells (Z7 f)]
theorem ZzH(x:List Tbl)(w:FitX x)(t:Tbl)(J:t∈x)(f:Fgn)(X:f∈t.fgn)(u:Tbl)(a:Nat)(y:x[a]?=some u)(Y:f.cols.length=u.key.length)(M:XM t f.cols)(h2:XM u u.key)(p r:Int)(ks:List It):
  ∀(q j:Nat) (i:Int) (g:Code),YP f20 6 g→i=(j:Int)→f.cols.length=j+q →
  RL K (.run 20 0 (.code g::.lp g (some ([1,8,10,11,49,50,51,56,57,58,84,85,86],[])) 3::.blk 6 3::ks) [(1,.ptr 0 0),(8,.ptr 1 0),(10,.ptr 2 0),(11,I (a:Int)),(49,.rows (x.map Zc)),(50,I (x.length:Int)),(51,I p),(56,.rows (t.fgn.map Z7)),(57,I (t.fgn.length:Int)),(58,I r),(84,.rows (SLs u.key)),(85,I (u.key.length:Int)),(86,I i)] (ZyV x t f)) =
  if evE (kdE t u f.cols u.key) j q=0 then R K (.run 20 0 ks [(1,.ptr 0 0),(8,.ptr 1 0),(49,.rows (x.map Zc)),(50,I (x.length:Int)),(51,I p),(56,.rows (t.fgn.map Z7)),(57,I (t.fgn.length:Int)),(58,I r)] (ZyV x t f))else some (I (evE (kdE t u f.cols u.key) j q),[])
 |0,j,i,g,b,hi,Z=>by
  subst hi;have d:¬(j:Int)<(u.key.length:Int):=by omega
  simp only[go_sem,simprocAttr,f20]at b;subst b;rw[Ze];simp only[go_sem,simprocAttr,d,evE]
 |q+1,j,i,g,b,hi,Z=>by
  subst hi;have A:=b;have hT:=w.tbl t J;have N:=w.tbl u (Ve y);have hk:=N.key;have d:(j:Int)<(u.key.length:Int):=by omega
  have h7:Zx .i64 ((j:Int)+1)=((j+1:Nat):Int):=ZQ (n:=u.key.length) (by omega) (by omega);obtain⟨m,C⟩:=Zu (l:=f.cols) (i:=j) (by omega);obtain⟨n,D⟩:=Zu (l:=u.key) (i:=j) (by omega);obtain⟨c1,c,O,P⟩:=J0 (M m (Ve C));obtain⟨d1,e,Q,S⟩:=J0 (h2 n (Ve D));have T:=J6 C;have U:=J6 D;have k:=Y9 t m hT.cols;have o:=Y9 u n N.cols;rw[O]at k;rw[Q]at o;have E:=Ym P;have F:=Ym S;have G:=YF y;have e1:ZjI t m=some c:=by unfold ZjI;rw[O,Vk,P]
  have e2:ZjI u n=some e:=by unfold ZjI;rw[Q,Vk,S]
  have h:kdE t u f.cols u.key j=if c.kd=e.kd then 0 else 8:=by unfold kdE;rw[C,D];simp only;rw[e1,e2]
  have W:=ZzH x w t J f X u a y Y M h2 p r ks q (j+1) _ g A rfl (by omega);simp only[Yk,Zc,Zh]at k o E F G;by_cases v:c.kd=e.kd
  ·have H:(c.kd==e.kd)=true:=by simpa using v
   rw[Vr v]at h;rw[QK h];simp only[go_sem,simprocAttr,f20]at b;subst b;rw[Ze];simp only[go_sem,simprocAttr,Zc,Z7,d,h7,T,U,k,o,E,F,G,bne,H];simp only[ZyV,Zc,Z7]at W;rw[W];rfl
  have H:(c.kd==e.kd)=false:=by simpa using v
  rw[Vm v]at h;rw[YM (by rw[h];decide),h,Vm (by decide)];simp only[go_sem,simprocAttr,f20]at b;subst b;rw[Ze];simp only[go_sem,simprocAttr,Zc,Z7,d,T,U,k,o,E,F,G,bne,H]
theorem ZzQ(x:List Tbl)(k:FitX x)(t:Tbl)(y:t∈x)(F:∀f∈t.fgn,XM t f.cols)(G:∀u∈x,XM u u.key)(p:Int)(ks:List It):
  ∀(q j:Nat) (i:Int) (e:Code),YP f20 4 e→i=(j:Int)→t.fgn.length=j+q →
  RL K (.run 20 0 (.code e::.lp e (some ([1,8,49,50,51,56,57,58],[])) 2::.blk 4 2::ks) [(1,.ptr 0 0),(8,.ptr 1 0),(49,.rows (x.map Zc)),(50,I (x.length:Int)),(51,I p),(56,.rows (t.fgn.map Z7)),(57,I (t.fgn.length:Int)),(58,I i)] (xtH x t)) =
  if evE (fkE x t) j q=0 then R K (.run 20 0 ks [(1,.ptr 0 0),(49,.rows (x.map Zc)),(50,I (x.length:Int)),(51,I p)] (xtH x t))else some (I (evE (fkE x t) j q),[])
 |0,j,i,e,b,hi,O=>by
  subst hi;have d:¬(j:Int)<(t.fgn.length:Int):=by omega
  simp only[go_sem,simprocAttr,f20]at b;subst b;rw[Ze];simp only[go_sem,simprocAttr,d,evE]
 |q+1,j,i,e,b,hi,O=>by
  subst hi;have A:=b;have P:=k.tbl t y;have H:=P.fgn;have d:(j:Int)<(t.fgn.length:Int):=by omega
  have Q:Zx .i64 ((j:Int)+1)=((j+1:Nat):Int):=ZQ (n:=t.fgn.length) (by omega) (by omega);obtain⟨f,C⟩:=Zu (l:=t.fgn) (i:=j) (by omega);have g:=ZbD C;have J:=Ve C;have h:=YT x f.tb k.len;have M:=ZzQ x k t y F G p ks q (j+1) _ e A rfl (by omega);have c:fkE x t j=ZsB x t f:=by unfold fkE;rw[C]
  simp only[Z7]at g;unfold ZsB at c;by_cases o:ixN f.tb (x.map (·.nm)) 0<0
  ·rw[Vr o]at c;rw[YM (by rw[c];decide),c,Vm (by decide)];simp only[go_sem,simprocAttr,f20]at b;subst b;rw[Ze];simp only[go_sem,simprocAttr,d,g,h,o]
  obtain⟨a,u,N,r⟩:=Zmj o;have v:=YF r;have S:=Ve r;have D:((a:Int)<0)=False:=Pw (by omega);rw[Vm o,N,Vk,r]at c;simp only at c;rw[N]at h;simp only[Zc]at v;by_cases w:f.cols.length=u.key.length
  ·have dl:((f.cols.length:Int)==(u.key.length:Int))=true:=by rw[w,Up]
   rw[Vr w]at c;have E:=fun ks B b=>ZzH x k t y f J u a r w (F f J) (G u S) p (j:Int) ks f.cols.length 0 0 B b rfl (by omega);simp only[ZyV,Zc,Z7]at E;by_cases z:evE (kdE t u f.cols u.key) 0 f.cols.length=0
   ·rw[z]at c;rw[QK c];simp only[go_sem,simprocAttr,f20]at b;subst b;rw[Ze];simp only[go_sem,simprocAttr,Zc,d,g,h,D,v,Vd,bne,dl];rw[E _ _ ?_,Vr z]
    ·simp only[go_sem,simprocAttr,Q];simp only[xtH,Zc]at M;rw[M];rfl
    rfl
   rw[YM (by rw[c];exact z),c,Vm z];simp only[go_sem,simprocAttr,f20]at b;subst b;rw[Ze];simp only[go_sem,simprocAttr,Zc,d,g,h,D,v,Vd,bne,dl];rw[E _ _ ?_,Vm z];rfl
  have dl:((f.cols.length:Int)==(u.key.length:Int))=false:=by rw[←U2,Up];omega
  rw[Vm w]at c;rw[YM (by rw[c];decide),c,Vm (by decide)];simp only[go_sem,simprocAttr,f20]at b;subst b;rw[Ze];simp only[go_sem,simprocAttr,Zc,d,g,h,D,v,Vd,bne,dl]
theorem ZzE(x:List Tbl)(f:FitX x)(g:∀t∈x,TabOk t)(ks:List It):
  ∀(q j:Nat) (i:Int) (c:Code),YP f20 2 c→i=(j:Int)→x.length=j+q →
  RL K (.run 20 0 (.code c::.lp c (some ([1,49,50,51],[])) 1::.blk 2 1::ks) [(1,.ptr 0 0),(49,.rows (x.map Zc)),(50,I (x.length:Int)),(51,I i)] (xH x)) =
  if evE (JV x) j q=0 then R K (.run 20 0 ks [] (xH x))else some (I (evE (JV x) j q),[])
 |0,j,i,c,b,hi,y=>by
  subst hi;have d:¬(j:Int)<(x.length:Int):=by omega
  simp only[go_sem,simprocAttr,f20]at b;subst b;rw[Ze];simp only[go_sem,simprocAttr,d,evE]
 |q+1,j,i,c,b,hi,y=>by
  subst hi;have h:=b;have r:=f.len;have d:(j:Int)<(x.length:Int):=by omega
  have A:Zx .i64 ((j:Int)+1)=((j+1:Nat):Int):=ZQ (n:=x.length) (by omega) (by omega);obtain⟨t,k⟩:=Zu (l:=x) (i:=j) (by omega);have o:=YF k;have v:=Ve k;have w:=ZzE x f g ks q (j+1) _ c h rfl (by omega);have e:JV x j=evE (fkE x t) 0 t.fgn.length:=by unfold JV;rw[k]
  have p:=fun ks B b=>ZzQ x f t v (g t v).fg (fun u C=>(g u C).key) (j:Int) ks t.fgn.length 0 0 B b rfl (by omega);simp only[xtH,Zc]at p o;by_cases z:evE (fkE x t) 0 t.fgn.length=0
  ·rw[z]at e;rw[QK e];simp only[go_sem,simprocAttr,f20]at b;subst b;rw[Ze];simp only[go_sem,simprocAttr,d,o,Vd];rw[p _ _ ?_,Vr z]
   ·simp only[go_sem,simprocAttr,A];simp only[xH]at w;rw[w]
   rfl
  rw[YM (by rw[e];exact z),e,Vm z];simp only[go_sem,simprocAttr,f20]at b;subst b;rw[Ze];simp only[go_sem,simprocAttr,d,o,Vd];rw[p _ _ ?_,Vm z];rfl
theorem Zzl(x:List Tbl):evE (Zg4 x) 0 2=if evE (XA x) 0 x.length=0 then evE (JV x) 0 x.length else evE (XA x) 0 x.length:=by
 have e:evE (Zg4 x) 0 2=if evE (XA x) 0 x.length=0 then(if evE (JV x) 0 x.length=0 then 0 else evE (JV x) 0 x.length)else evE (XA x) 0 x.length:=rfl;rw[e];generalize evE (JV x) 0 x.length=z;have b:(if z=0 then 0 else z)=z:=by split<;>simp_all
 rw[b]
theorem Xp(x:List Tbl)(g:FitX x):R K (.call 20 [ZX x] [])=some (I (X8 x),[]):=by
 have h:=fun ks B e=>ZzU x g ks x.length 0 0 B e rfl (by omega);simp only[xH]at h;unfold X8;by_cases b:60<x.length
 ·have d:((60:Int)<(x.length:Int))=True:=V5 (by omega);rw[Vr b];rw[Zqi];simp only[go_sem,simprocAttr,f20,Vd,d]
 have d:((60:Int)<(x.length:Int))=False:=Pw (by omega);rw[Vm b,Zzl];rw[Zqi];simp only[go_sem,simprocAttr,f20,Vd,d];rw[h _ _ ?_]
 ·by_cases c:evE (XA x) 0 x.length=0
  ·have k:=fun ks B e=>ZzE x g (Zbn c).2 ks x.length 0 0 B e rfl (by omega);simp only[xH]at k;rw[Vr c,Vr c];simp only[go_sem,simprocAttr,Vd];rw[k _ _ ?_]
   ·by_cases f:evE (JV x) 0 x.length=0
    ·rw[Vr f,f];simp only[go_sem,simprocAttr]
    rw[Vm f]
   rfl
  rw[Vm c,Vm c]
 rfl
section
variable{L:List Int}{a B:Int}
theorem Zjm(h:Gd L a B)(k:20≤B)(nm:List UInt8):∃(c:Col) (a':Int),R K (.call 24 [.ptr 0 0,.str nm] (St L a))=some (.agg (Zh c),St L a')∧a≤a'∧a'≤a+20∧c.nm=nm:=by
 obtain⟨x,o,p⟩:=ZdU h (by omega) [2,2,3,1,4] (by decide) (by decide);simp only[List.map]at p;have d:=h.step (a+1) (B-1) (by omega) (by omega);have e:=Xk d (by omega) 2;have h2:=d.step (a+1+1) (B-2) (by omega) (by omega);have b:=Xk h2 (by omega) 4;have h3:=h2.step (a+1+1+1) (B-3) (by omega) (by omega);generalize(ZS L (a+1) 2==0)=b1 at *;cases f:ZS L (a+1+1) 4==0 with
 |true =>
  rw[f]at b;obtain⟨v,a',g,q,r,_⟩:=Zhs h3 (by omega) x;simp only[enc]at g;refine⟨⟨nm,x,b1,v⟩,a',?_,by omega,by omega,rfl⟩;rw[Zrq];simp only[go_sem,simprocAttr,f24,p,e,b,g,Zh]
 |false =>
  rw[f]at b;refine⟨⟨nm,x,b1,⟨0,0,[]⟩⟩,a+1+1+1,?_,by omega,by omega,rfl⟩;rw[Zrq];simp only[go_sem,simprocAttr,f24,p,e,b,Zh]
def W0(l:List Int):List (List AV):=l.map fun x=>[I x]
def Zp6(n:Nat)(l:List Int):Prop:=l.length=n∧∀x∈l,0≤x∧x<(n:Int)
theorem Zkz(l:List Int):(W0 l).length=l.length:=by simp[W0]
theorem Zw0(l:List Int)(x:Int):W0 l++[[I x]]=W0 (l++[x]):=by simp[W0]
theorem Zdn{l:List Int}{x:Int}(h:l[i]?=some x):(W0 l)[i]?=some [I x]:=by simp[W0,h]
theorem Ztj(l:List Int)(i:Nat)(x:Int):(W0 l).set i [I x]=W0 (l.set i x):=by simp[W0,V9]
theorem Jc:∀l:List Int,Zz (W0 l)=[]
 |[]=>rfl
 |x::l=>by simpa[W0,Zz,Zg,locs]using Jc l
theorem ZwO(n:Nat)(u:n≤20):∀(q j:Nat) (l:List Int),n=j+q→l.length=j→(∀x∈l,0≤x∧x<(n:Int))→∃l',Zp6 n l'∧∀(ks:List It) (b:Code) (jj:Int),YP f26 0 b→jj=(j:Int) →
  RL K (.run 26 1 (.code b::.lp b (some ([0,1,5,9,10],[])) 2::.blk 0 2::ks) [(0,.ptr 0 0),(1,I (n:Int)),(5,.own 1 l.length),(9,I (n:Int)),(10,I jj)] [.cells [LR L,I a],.rows 1 (W0 l) true]) =
  R K (.run 26 1 ks [(0,.ptr 0 0),(1,I (n:Int)),(5,.own 1 n)] [.cells [LR L,I a],.rows 1 (W0 l') true])
 |0,j,l,v,r,g=>by
  have d:¬(j:Int)<(n:Int):=by omega
  have e:l.length=n:=by omega
  refine⟨l,⟨e,g⟩,fun ks b jj c k=>?_⟩;subst k;simp only[go_sem,simprocAttr,f26]at c;subst c;rw[Ze];simp only[go_sem,simprocAttr,d,Jc,e]
 |q+1,j,l,v,r,g=>by
  have d:(j:Int)<(n:Int):=by omega
  have w:=ZQ (i:=j) (n:=n) (by omega) (by omega);obtain⟨l',p,f⟩:=ZwO n u q (j+1) (l++[(j:Int)]) (by omega) (by simp[r]) (fun x o=>by
   rcases Vg.1 o with h|h
   ·exact g x h
   rw[VH]at h;omega)
  refine⟨l',p,fun ks b jj c k=>?_⟩;subst k;have f:=f ks b _ c rfl;have y:((l.length+1)*9≤Zp)=True:=V5 (by unfold Zp;omega);simp only[Vu,VC,VI,VZ]at f;simp only[go_sem,simprocAttr,f26]at c;subst c;rw[Ze];simp only[go_sem,simprocAttr,d,w,Jc,Zkz,Zw0,y];exact f
theorem Zv8{l:List Int}(h:Zp6 n l)(i:Nat){x:Int}(c:x∈l):Zp6 n (l.set i x):=by
 refine⟨by rw[Vq];exact h.1,fun y d=>?_⟩;rcases VL d with b|b
 ·exact h.2 y b
 rw[b];exact h.2 x c
theorem Zxk(n:Nat)(G:n≤20):∀(i:Nat) (l:List Int) (a B:Int),i<n→Gd L a B→(i:Int)≤B→Zp6 n l→∃(l':List Int) (a':Int),a≤a'∧a'≤a+i∧Zp6 n l'∧∀(ks:List It) (h:Code),YP f26 2 h →
  RL K (.run 26 1 (.code h::.lp h (some ([0,5,7],[])) 2::.blk 2 2::ks) [(0,.ptr 0 0),(5,.own 1 n),(7,I (i:Int))] [.cells [LR L,I a],.rows 1 (W0 l) true]) =
  R K (.run 26 1 ks [(5,.own 1 n)] [.cells [LR L,I a'],.rows 1 (W0 l') true])
 |0,l,a,B,hi,u,v,e=>by refine⟨l,a,by omega,by omega,e,fun ks h o=>?_⟩;simp only[go_sem,simprocAttr,f26]at o;subst o;rw[Ze];simp only[go_sem,simprocAttr,Jc]
 |i+1,l,a,B,hi,u,v,e=>by
  have p:=Yb u (by omega) ((i:Int)+1+1);have H:=ZD L a ((i:Int)+1+1) (by omega) (by omega);obtain⟨k,J⟩:∃k:Nat,ZS L a ((i:Int)+1+1)=(k:Int):=⟨(ZS L a ((i:Int)+1+1)).toNat,by omega⟩;rw[J]at p H;have M:=e.1;obtain⟨q,f⟩:=Zu (l:=l) (i:=i+1) (by omega);obtain⟨r,g⟩:=Zu (l:=l) (i:=k) (by omega);have mi:=Ve f;have N:=Ve g;have C:=Zv8 e (i+1) N;have D:q∈l.set (i+1) r∨True:=.inr trivial;obtain⟨z,O⟩:=Zu (l:=l.set (i+1) r) (i:=k) (by rw[Vq];omega);have P:Zp6 n ((l.set (i+1) r).set k q):=by
   refine⟨by rw[Vq,Vq];exact e.1,fun y Q=>?_⟩;rcases VL Q with w|w
   ·exact C.2 y w
   rw[w];exact e.2 q mi
  obtain⟨l',a',q1,q2,S,A⟩:=Zxk n G i ((l.set (i+1) r).set k q) (a+1) (B-1) (by omega) (u.step _ _ (by omega) (by omega)) (by omega) P;refine⟨l',a',by omega,by omega,S,fun ks h o=>?_⟩;have A:=A ks h o;have E:(((i+1:Nat):Int))=(i:Int)+1:=by omega
  have w1:Zx .i64 ((i:Int)+1+1)=(i:Int)+1+1:=Zq (by omega) (by omega);have w2:Zx .i64 ((i:Int)+1-1)=(i:Int):=by rw[Zq (by omega) (by omega)];omega
  have d:((i:Int)+1>0)=True:=V5 (by omega);have d2:((0:Int)<(i:Int)+1)=True:=V5 (by omega);have T:at? (W0 l) ((i:Int)+1)=some [I q]:=by have:=ZW (Zdn f);rw[E]at this;exact this
  have U:=ZW (Zdn g);have W:=Zdn f;have X:=Zdn g;have F:=Zdn O;have Y:=ZW F;have ti:((i:Int)+1).toNat=i+1:=by omega
  have sp:∀b c:Int,splice [I b] 0 [I c]=[I c]:=fun _ _=>rfl;have Z:(W0 l).length=n:=by rw[Zkz];exact e.1
  have n2:(W0 (l.set (i+1) r)).length=n:=by rw[Zkz];exact C.1
  rw[E];simp only[go_sem,simprocAttr,f26]at o;subst o;rw[Ze];simp only[go_sem,simprocAttr,p,w1,w2,d,T,U,W,X,F,Y,ti,Z,n2,Ztj,Jc,Vk];exact A
theorem Zq7(h:Gd L a B)(n:Nat)(o:1≤n)(b:n≤20)(p:20≤B):∃(l:List Int) (a':Int),Zp6 n l∧a≤a'∧a'≤a+20∧R K (.call 26 [.ptr 0 0,I (n:Int)] (St L a))=some (.rows (W0 l),St L a'):=by
 obtain⟨e,f,c⟩:=ZwO (L:=L) (a:=a) n b n 0 [] (by omega) rfl (by simp);obtain⟨l,a',g,q,d,k⟩:=Zxk (L:=L) n b (n-1) e a B (by omega) h (by omega) f;have w:Zx .i64 ((n:Int)-1)=((n-1:Nat):Int):=by rw[Zq (by omega) (by omega)];omega
 have nl:(W0 l).length=n:=by rw[Zkz];exact d.1
 refine⟨l,a',d,g,by omega,?_⟩;rw[show W0 []=[]from rfl,VI]at c;rw[ZyE];simp only[go_sem,simprocAttr,f26];rw[c _ _ 0 ?_ rfl]
 ·simp only[go_sem,simprocAttr,w];rw[k _ _ ?_]
  ·simp only[go_sem,simprocAttr,Jc,nl,Ub]
  rfl
 rfl
end
abbrev idB:List UInt8:=[105,100]
abbrev kB:List UInt8:=[107]
abbrev ZoN:Col:=⟨[105,100],2,false,⟨0,0,[]⟩⟩
abbrev Zsi:Blk:=.cells [.str [],.nils,.nils,.nils,.nils]
theorem Zw:∀l:List Col,Zz (l.map Zh)=[]
 |[]=>rfl
 |x::l=>by simpa[Zh,Zz,Zg,locs]using Zw l
theorem Ztv(l:List Col)(c:Col):l.map Zh++[Zh c]=(l++[c]).map Zh:=by simp
theorem Ziv(j:Nat)(b:j≤10):∃s:List UInt8,(Utf8.encode (Zx .i32 (97+(j:Int)))).data.toList=s∧s.length≤4:=by
 refine⟨_,rfl,?_⟩;have h:∀n:Fin 11,(Utf8.encode (Zx .i32 (97+(n.val:Int)))).data.toList.length≤4:=by decide
 exact h ⟨j,by omega⟩
structure ColsOk(cols:List Col)(m:Nat):Prop where
 len:cols.length≤m
 pos:1≤cols.length
 nm:∀c∈cols,c.nm.length≤100
 id:idB∈cols.map (·.nm)
theorem ColsOk.add{cols:List Col}(h:ColsOk cols m)(c:Col)(e:c.nm.length≤100):ColsOk (cols++[c]) (m+1):=by
 refine⟨by simp;exact h.len,by simp,fun d f=>?_,by rw[Ua];exact SF _ h.id⟩;rcases Vg.1 f with b|b
 ·exact h.nm d b
 rw[VH]at b;rw[b];exact e
section
variable{L:List Int}
theorem Zwx(nm:List UInt8)(r:Nat)(E:r≤4)(f:AV)(g:Za)(m:Nat)(hs:(f=.lit (SLs [idB])∧g=[]∧m=3)∨(f=.own 4 2∧g=[.rows 1 (SLs [idB,kB]) false]∧m=5)):∀(q j:Nat) (cols:List Col) (a B:Int) (u:Nat),r=j+q→u+q≤10→Gd L a B→(20*q:Int)≤B→ColsOk cols u →
  ∃(cols':List Col) (a':Int),a≤a'∧a'≤a+20*q∧ColsOk cols' (u+q)∧(∀n∈cols.map (·.nm),n∈cols'.map (·.nm))∧∀(ks:List It) (e:Code) (jj:Int),YP f12 0 e→jj=(j:Int) →
  RL K (.run 12 1 (.code e::.lp e (some ([0,4,5,33,34],[])) m::.blk 0 m::ks) [(0,.ptr 0 0),(4,.ptr 1 0),(5,.ptr 2 0),(33,I (r:Int)),(34,I jj)] (.cells [LR L,I a]::Zsi::.cells [.str nm,.own 3 cols.length,f,.nils,.nils]::.rows 6 (cols.map Zh) true::g)) =
  R K (.run 12 1 ks [(0,.ptr 0 0),(4,.ptr 1 0),(5,.ptr 2 0)] (.cells [LR L,I a']::Zsi::.cells [.str nm,.own 3 cols'.length,f,.nils,.nils]::.rows 6 (cols'.map Zh) true::g))
 |0,j,cols,a,B,u,F,G,o,p,k=>by
  have d:¬(j:Int)<(r:Int):=by omega
  refine⟨cols,a,by omega,by omega,k,fun n v=>v,fun ks e jj b w=>?_⟩;subst w;rcases hs with⟨rfl,rfl,rfl⟩|⟨rfl,rfl,rfl⟩
  ·simp only[go_sem,simprocAttr,f12]at b;subst b;rw[Ze];simp only[go_sem,simprocAttr,d]
  simp only[go_sem,simprocAttr,f12]at b;subst b;rw[Ze];simp only[go_sem,simprocAttr,d,Zw]
 |q+1,j,cols,a,B,u,F,G,o,p,k=>by
  have d:(j:Int)<(r:Int):=by omega
  have C:=ZQ (i:=j) (n:=r) (by omega) (by omega);obtain⟨s,es,H⟩:=Ziv j (by omega);have w1:Zx .i64 (97+(j:Int))=97+(j:Int):=Zq (by omega) (by omega);obtain⟨c,J,y,Q,S,M⟩:=Zjm o (by omega) (99::s);obtain⟨cols',a',T,U,N,O,h⟩:=Zwx nm r E f g m hs q (j+1) (cols++[c]) J (B-20) (u+1) (by omega) (by omega) (o.step _ _ (by omega) (by omega)) (by omega) (k.add c (by rw[M];simp;omega));refine⟨cols',a',by omega,by omega,by rw[show u+(q+1)=u+1+q by omega];exact N,fun n v=>O n (by rw[Ua];exact SF _ v),fun ks e jj b w=>?_⟩;subst w;have h:=h ks e _ b rfl;have P:=k.len;have A:=Ztv cols c;have W:=Qt cols;have D:((cols.length+1)*65≤Zp)=True:=V5 (by unfold Zp;omega);have st:(1+s.length≤Xa)=True:=V5 (by unfold Xa;omega);simp only[Vu,VC,VI,VZ,Zh]at h y A;rcases hs with⟨rfl,rfl,rfl⟩|⟨rfl,rfl,rfl⟩
  ·simp only[go_sem,simprocAttr,f12]at b;subst b;rw[Ze];simp only[go_sem,simprocAttr,d,C,w1,es,y,A,D,st,Vd];exact h
  simp only[go_sem,simprocAttr,f12]at b;subst b;rw[Ze];simp only[go_sem,simprocAttr,d,C,w1,es,y,A,D,st,Zw,Vd];exact h
end
theorem YV:∀l:List Idx,Zz (l.map Yq)=[]
 |[]=>rfl
 |x::l=>by simpa[Yq,Zz,Zg,locs]using YV l
theorem Ze5(l:List Idx)(c:Idx):l.map Yq++[Yq c]=(l++[c]).map Yq:=by simp
theorem Zll:SLs []=[]:=rfl
theorem Zsy(l:List Int)(k:Nat):List.take k (W0 l)=W0 (l.take k):=by simp[W0,UV]
theorem ZgJ:∀l:List Int,Y1 1 (W0 l)=true
 |[]=>rfl
 |x::l=>by simpa[W0,Y1]using ZgJ l
def TbS(cols:List Col)(key:List (List UInt8))(cv kv:AV)(g:Za):Prop :=
 (cv=.lit (cols.map Zh)∧kv=.lit (SLs key)∧g=[])∨(cv=.rows (cols.map Zh)∧kv=.lit (SLs key)∧g=[.hole])∨(cv=.rows (cols.map Zh)∧kv=.rows (SLs key)∧g=[.hole,.hole])
section
variable{L:List Int}
theorem Zz6(nm f:List UInt8)(w:Bool)(cols:List Col)(key:List (List UInt8))(p u:AV)(g:Za)(hs:TbS cols key p u g)(a:Int)(is:List Idx)(r i:Int)(ps:List Int)(F:∀x∈ps,0≤x∧x<(cols.length:Int))(y:ps.length≤2):∀(q j:Nat) (e:List (List UInt8)),ps.length=j+q→e.length≤j→(∀n∈e,n∈cols.map (·.nm)) →
  ∃b:List (List UInt8),(b.length≤2∧∀n∈b,n∈cols.map (·.nm))∧∀(ks:List It) (k:Code) (jj:Int),YP f12 4 k→jj=(j:Int) →
  RL K (.run 12 1 (.code k::.lp k (some ([0,4,5,8,51,52,74,75,76],[])) (6+g.length)::.blk 4 (6+g.length)::ks) [(0,.ptr 0 0),(4,.ptr 1 0),(5,.ptr 2 0),(8,.ptr (4+g.length) 0),(51,I r),(52,I i),(74,.rows (W0 ps)),(75,I (ps.length:Int)),(76,I jj)] (.cells [LR L,I a]::Zsi::.cells [.str nm,p,u,.nils,.own (3+g.length) is.length]::(g++[.rows 3 (is.map Yq) false,.cells [.str f,.own (5+g.length) e.length,.bool w],.rows 1 (SLs e) false]))) =
  R K (.run 12 1 ks [(0,.ptr 0 0),(4,.ptr 1 0),(5,.ptr 2 0),(8,.ptr (4+g.length) 0),(51,I r),(52,I i)] (.cells [LR L,I a]::Zsi::.cells [.str nm,p,u,.nils,.own (3+g.length) is.length]::(g++[.rows 3 (is.map Yq) false,.cells [.str f,.own (5+g.length) b.length,.bool w],.rows 1 (SLs b) false])))
 |0,j,e,J,M,A=>by
  have d:¬(j:Int)<(ps.length:Int):=by omega
  refine⟨e,⟨by omega,A⟩,fun ks k jj o C=>?_⟩;subst C;rcases hs with⟨rfl,rfl,rfl⟩|⟨rfl,rfl,rfl⟩|⟨rfl,rfl,rfl⟩
  all_goals
   simp only[VC,VI,VZ,Ug,Nat.reduceAdd,Vl,Vi];simp only[go_sem,simprocAttr,f12]at o;subst o;rw[Ze];simp only[go_sem,simprocAttr,d,Zv,YV]
 |q+1,j,e,J,M,A=>by
  have d:(j:Int)<(ps.length:Int):=by omega
  have N:=ZQ (i:=j) (n:=ps.length) (by omega) (by omega);obtain⟨x,G⟩:=Zu (l:=ps) (i:=j) (by omega);have D:=F x (Ve G);have O:=ZW (Zdn G);obtain⟨c,H⟩:=Zu (l:=cols) (i:=x.toNat) (by omega);have E:=Ym H;rw[Pz D.1]at E;obtain⟨b,P,v⟩:=Zz6 nm f w cols key p u g hs a is r i ps F y q (j+1) (e++[c.nm]) (by omega) (by simp;omega) (fun n Q=>(Vg.1 Q).elim (A n) fun h=>by rw[VH]at h;rw[h];exact VE.2 ⟨c,Ve H,rfl⟩);refine⟨b,P,fun ks k jj o C=>?_⟩;subst C;have v:=v ks k _ o rfl;have S:=ZqD e c.nm;have T:((e.length+1)*17≤Zp)=True:=V5 (by unfold Zp;omega);simp only[Zh]at E;rcases hs with⟨rfl,rfl,rfl⟩|⟨rfl,rfl,rfl⟩|⟨rfl,rfl,rfl⟩
  all_goals
   simp only[VC,VI,Vu,VZ,Ug,Nat.reduceAdd,Vl,Vi]at v ⊢;simp only[go_sem,simprocAttr,f12]at o;subst o;rw[Ze];simp only[go_sem,simprocAttr,d,N,O,E,S,T,Yh,Zv,YV];exact v
end
structure Chg where
 kd:Int
 tb:List UInt8
 nm:List UInt8
 nm2:List UInt8
 col:Col
 idx:Idx
 fgn:Fgn
 new:Tbl
 cls:List (List UInt8)
def Zb(c:Chg):List AV:=[I c.kd,.str c.tb,.str c.nm,.str c.nm2,.str c.col.nm,I c.col.kd,.bool c.col.nl,I c.col.df.k,I c.col.df.n,.str c.col.df.s,.str c.idx.nm,.rows (SLs c.idx.cols),.bool c.idx.uq,
 .str c.fgn.nm,.rows (SLs c.fgn.cols),.str c.fgn.tb,.str c.new.nm,.rows (c.new.cols.map Zh),.rows (SLs c.new.key),.rows (c.new.fgn.map Z7),.rows (c.new.idx.map Yq),.rows (SLs c.cls)]
section
variable{α:Type}(nm:α→List UInt8)
def ZCA:Nat→List α→List α
 |0,l=>l
 |j+1,l=>match l[j]?,l[j+1]? with
  |some a,some b=>if Lib.compareBytes (nm b) (nm a)<0 then ZCA j ((l.set j b).set (j+1) a)else l
  |_,_=>l
def ZCp:Nat→Nat→List α→List α
 |_,0,l=>l
 |i,q+1,l=>ZCp (i+1) q (ZCA nm i l)
def srt(l:List α):List α:=ZCp nm 1 (l.length-1) l
def Rising(l:List α):Prop:=l.Pairwise fun a b=>Op.bytesLess (nm a) (nm b)=true
end
theorem ZlK:∀a b:List UInt8,Op.bytesLess a b=true→Op.bytesLess b a=false
 |[],[],h=>by simp[Op.bytesLess]at h
 |[],_::_,_=>rfl
 |_::_,[],h=>by simp[Op.bytesLess]at h
 |x::a,y::b,h=>by
  simp only[Op.bytesLess,U0,VA,VK,Up]at h;rcases h with h|⟨rfl,h⟩
  ·have c:¬y<x:=fun h2=>by have d:=U5.1 h;have f:=U5.1 h2;omega
   have h2:¬y=x:=fun e=>by subst e;have d:=U5.1 h;omega
   simp[Op.bytesLess,c,h2]
  have c:¬x<x:=fun h2=>by have f:=U5.1 h2;omega
  simp[Op.bytesLess,c,ZlK a b h]
theorem Zwq(a:List UInt8):Op.bytesLess a a=false:=by
 cases h:Op.bytesLess a a with
 |false=>rfl
 |true =>
  have:=ZlK a a h;rw[h]at this;exact this
theorem ZnV:∀a b:List UInt8,Lib.compareBytes a b<0→Op.bytesLess a b=true
 |[],[],h=>by simp[Lib.compareBytes]at h
 |[],_::_,_=>rfl
 |_::_,[],h=>by simp[Lib.compareBytes]at h
 |x::a,y::b,h=>by
  unfold Lib.compareBytes at h;by_cases c:x<y
  ·simp[Op.bytesLess,c]
  rw[Vm c]at h;by_cases h2:y<x
  ·rw[Vr h2]at h;simp at h
  rw[Vm h2]at h;have e:x=y:=by apply UInt8.toNat_inj.1;have d:¬x.toNat<y.toNat:=fun h=>c (U5.2 h);have f:¬y.toNat<x.toNat:=fun h=>h2 (U5.2 h);omega
  subst e;simp[Op.bytesLess,ZnV a b h]
section
variable{α:Type}{nm:α→List UInt8}
theorem Rising.sub{l l':List α}(h:Rising nm l)(s:l'.Sublist l):Rising nm l':=List.Pairwise.sublist s h
theorem Rising.set_same{l:List α}(h:Rising nm l)(i:Nat){a b:α}(r:l[i]?=some a)(e:nm b=nm a):Rising nm (l.set i b):=by
 refine UI.2 fun j k o p d=>?_;rw[Vq]at o p;have f:=UI.1 h j k o p d;obtain⟨hi,q⟩:=Vb.1 r;rw[List.getElem_set,List.getElem_set];by_cases g:i=j
 ·by_cases c:i=k
  ·omega
  subst g;rw[Vr rfl,Vm c,e,←q];exact f
 by_cases c:i=k
 ·subst c;rw[Vm g,Vr rfl,e,←q];exact f
 rw[Vm g,Vm c];exact f
theorem QI:∀{l:List α} {n:List UInt8} {i:Nat} {a:α},(∀(j k:Nat) (x y:α),l[j]?=some x→l[k]?=some y→nm x=nm y→j=k)→l[i]?=some a→nm a=n→l.filter (fun x=>!(nm x==n))=l.eraseIdx i
 |[],n,i,a,_,h,_=>by simp at h
 |x::l,n,0,a,c,h,b=>by
  simp only[Vt,Va]at h;subst h;rw[List.eraseIdx_cons_zero,List.filter_cons_of_neg (by simp[b])];refine List.filter_eq_self.2 fun y d=>?_;obtain⟨k,f⟩:=Uf.1 d;have:nm y≠n:=fun e=>by have:=c 0 (k+1) x y rfl (by simpa using f) (b.trans e.symm);omega
  simp[this]
 |x::l,n,i+1,a,c,h,b=>by
  have g:nm x≠n:=fun e=>by have:=c 0 (i+1) x a rfl h (e.trans b.symm);omega
  rw[SQ,List.filter_cons_of_pos (by simp[g])];rw[QI (fun j k y z d o e=>by have:=c (j+1) (k+1) y z (by simpa using d) (by simpa using o) e;omega) (by simpa using h) b]
theorem Rising.one{l:List α}(h:Rising nm l):∀(j k:Nat) (x y:α),l[j]?=some x→l[k]?=some y→nm x=nm y→j=k:=fun j k x y g o e=>by
 obtain⟨c,d⟩:=Vb.1 g;obtain⟨h2,f⟩:=Vb.1 o;rcases PK j k with b|b|b
 ·have h3:=UI.1 h j k c h2 b;rw[d,f,e,Zwq]at h3;simp at h3
 ·exact b
 have h3:=UI.1 h k j h2 c b;rw[d,f,e,Zwq]at h3;simp at h3
end
def ZnX(is:List Idx)(m:Nat):Prop:=is.length≤m∧∀x∈is,x.nm.length≤100∧x.cols.length≤2
def Zrj(cols:List Col)(is:List Idx):Prop:=∀x∈is,∀n∈x.cols,n∈cols.map (·.nm)
def ZqP(j:Nat):List UInt8:=(Utf8.encode (Zx .i32 (97+(j:Int)))).data.toList
def RiseI(is:List Idx)(m:Nat):Prop:=(∀x∈is,∃j,j<m∧x.nm=105::ZqP j)∧Rising (fun f:Idx=>f.nm) is
theorem RiseI.up{is:List Idx}(h:RiseI is m)(c:m≤n):RiseI is n:=⟨fun x b=>by obtain⟨j,d,h2⟩:=h.1 x b;exact⟨j,by omega,h2⟩,h.2⟩
theorem ZhN:RiseI [] 0:=⟨by simp,List.Pairwise.nil⟩
theorem ZsI:Op.bytesLess (105::ZqP 0) (105::ZqP 1)=true:=by decide
theorem RiseI.add{is:List Idx}{i:Nat}(h:RiseI is i)(hi:i≤1){x:Idx}(c:x.nm=105::ZqP i):RiseI (is++[x]) (i+1):=by
 refine⟨fun y b=>?_,List.pairwise_append.2 ⟨h.2,List.pairwise_singleton _ _,fun y b z d=>?_⟩⟩
 ·rcases Vg.1 b with b|b
  ·exact(h.up (Nat.le_succ i)).1 y b
  rw[VH]at b;subst b;exact⟨i,by omega,c⟩
 rw[VH]at d;subst d;obtain⟨j,f,e⟩:=h.1 y b;obtain rfl:j=0:=by omega
 obtain rfl:i=1:=by omega
 show Op.bytesLess y.nm z.nm=true;rw[e,c];exact ZsI
section
variable{L:List Int}
theorem ZqI(nm:List UInt8)(cols:List Col)(H:ColsOk cols 6)(key:List (List UInt8))(y A:AV)(g:Za)(hs:TbS cols key y A g)(r:Nat)(hr:r≤2):∀(q i:Nat) (is:List Idx) (a B:Int),r=i+q→Gd L a B→(30*q:Int)≤B→ZnX is i→Zrj cols is→RiseI is i →
  ∃(c:List Idx) (a':Int),a≤a'∧a'≤a+30*q∧(ZnX c 2∧Zrj cols c∧RiseI c 2)∧∀(ks:List It) (u:Code) (F:Int),YP f12 2 u→F=(i:Int) →
  RL K (.run 12 1 (.code u::.lp u (some ([0,4,5,51,52],[])) (4+g.length)::.blk 2 (4+g.length)::ks) [(0,.ptr 0 0),(4,.ptr 1 0),(5,.ptr 2 0),(51,I (r:Int)),(52,I F)] (.cells [LR L,I a]::Zsi::.cells [.str nm,y,A,.nils,.own (3+g.length) is.length]::(g++[.rows 3 (is.map Yq) false]))) =
  R K (.run 12 1 ks [(4,.ptr 1 0),(5,.ptr 2 0)] (.cells [LR L,I a']::Zsi::.cells [.str nm,y,A,.nils,.own (3+g.length) c.length]::(g++[.rows 3 (c.map Yq) false])))
 |0,i,is,a,B,hq,J,M,hi,N,O=>by
  have d:¬(i:Int)<(r:Int):=by omega
  refine⟨is,a,by omega,by omega,⟨⟨by have:=hi.1;omega,hi.2⟩,N,O.up (by omega)⟩,fun ks u F v e=>?_⟩;subst e;rcases hs with⟨rfl,rfl,rfl⟩|⟨rfl,rfl,rfl⟩|⟨rfl,rfl,rfl⟩
  all_goals
   simp only[VC,VI,VZ,Ug,Nat.reduceAdd,Vl,Vi];simp only[go_sem,simprocAttr,f12]at v;subst v;rw[Ze];simp only[go_sem,simprocAttr,d,YV]
 |q+1,i,is,a,B,hq,J,M,hi,N,O=>by
  have d:(i:Int)<(r:Int):=by omega
  have h7:=ZQ (i:=i) (n:=r) (by omega) (by omega);obtain⟨s,es,a0⟩:=Ziv i (by omega);have w1:Zx .i64 (97+(i:Int))=97+(i:Int):=Zq (by omega) (by omega);have P:=H.pos;have a2:=H.len;have x1:=Xk J (by omega) 2;have U:=J.step (a+1) (B-1) (by omega) (by omega);generalize(ZS L a 2==0)=uq at *;obtain⟨o,f,W,p2,p3,x2⟩:=Zq7 U cols.length P (by omega) (by omega);have X:=U.step f (B-21) (by omega) (by omega);obtain⟨b,a3,a4,a5,Q⟩:∃b:Int,1≤b∧b≤2∧b≤(cols.length:Int)∧(if(cols.length:Int)<2 then(cols.length:Int)else 2)=b:=by refine⟨_,?_,?_,?_,rfl⟩<;>split<;>omega
  have Y:=WU X (by omega) 1 b (by omega) (by omega) (by omega);have b3:=Wd L f 1 b (by omega) (by omega);obtain⟨w,S⟩:∃k:Nat,Jq L f 1 b=(k:Int):=⟨(Jq L f 1 b).toNat,by omega⟩;rw[S]at Y b3;have G3:=X.step (f+1) (B-22) (by omega) (by omega);have a6:=W.1;obtain⟨p,Z,T⟩:=Zz6 (L:=L) nm (105::s) uq cols key y A g hs (f+1) is (r:Int) (i:Int) (o.take w) (fun x C=>W.2 x (Pv C)) (by rw[Sv];omega) (o.take w).length 0 [] (by omega) (by simp) (by simp);have D:(o.take w).length=w:=by rw[Sv];omega
  rw[D]at T;have E:ZnX (is++[⟨105::s,p,uq⟩]) (i+1):=by
   refine⟨by rw[Vu];have:=hi.1;simp;omega,fun x C=>?_⟩;rcases Vg.1 C with h|h
   ·exact hi.2 x h
   rw[VH]at h;subst h;exact⟨by simp;omega,Z.1⟩
  obtain⟨c,a',q1,q2,q3,G⟩:=ZqI nm cols H key y A g hs r hr q (i+1) (is++[⟨105::s,p,uq⟩]) (f+1) (B-30) (by omega) (G3.step _ _ (by omega) (by omega)) (by omega) E (fun x C n hn=>(Vg.1 C).elim (fun h=>N x h n hn) fun h=>by rw[VH]at h;subst h;exact Z.2 n hn) (O.add (by omega) (by show _=_;rw[←es];rfl));refine⟨c,a',by omega,by omega,q3,fun ks u F v e=>?_⟩;subst e;have G:=G ks u _ v rfl;have a7:=hi.1;have ia:=Ze5 is ⟨105::s,p,uq⟩;have rm:((is.length+1)*49≤Zp)=True:=V5 (by unfold Zp;omega);have st:(1+s.length≤Xa)=True:=V5 (by unfold Xa;omega);have g1:((w:Int)≤(o.length:Int))=True:=V5 (by omega);have g2:((0:Int)≤(w:Int))=True:=V5 (by omega);simp only[Yq]at ia;rcases hs with⟨rfl,rfl,rfl⟩|⟨rfl,rfl,rfl⟩|⟨rfl,rfl,rfl⟩
  all_goals
   simp only[VC,VI,Vu,VZ,Ug,Nat.reduceAdd,Vl,Vi,Zll]at G T ⊢;simp only[go_sem,simprocAttr,f12]at v;subst v;rw[Ze];simp only[go_sem,simprocAttr,d,w1,es,st,x1,x2,Y,Q,g1,g2,Zsy,ZgJ,Zkz,D,Vk,V4,Vd];rw[T _ _ 0 ?_ rfl]
   ·simp only[go_sem,simprocAttr,h7,ia,rm,Vd,Zv,YV];exact G
   rfl
end
structure GenT(t:Tbl):Prop where
 nm:t.nm.length≤100
 cols:ColsOk t.cols 6
 key:t.key.length≤2
 keyIn:∀n∈t.key,n∈t.cols.map (·.nm)
 fgn:t.fgn=[]
 idx:ZnX t.idx 2
 idxIn:Zrj t.cols t.idx
 rise:RiseI t.idx 2
theorem cols_id:ColsOk [ZoN] 1:=⟨by simp,by simp,by simp,by simp⟩
theorem ZkV:ZnX [] 0:=⟨by simp,by simp⟩
section
variable{L:List Int}{a B:Int}
theorem Zqc(h:Gd L a B)(hB:200≤B)(nm:List UInt8)(o:nm.length≤100):∃(t:Tbl) (a':Int),R K (.call 12 [.ptr 0 0,.str nm] (St L a))=some (Yk t,St L a')∧a≤a'∧a'≤a+200∧GenT t∧t.nm=nm:=by
 have A:=Xk h (by omega) 4;have H:=h.step (a+1) (B-1) (by omega) (by omega);cases f:ZS L a 4==0 with
 |false =>
  rw[f]at A;have v:=WU H (by omega) 0 4 (by omega) (by omega) (by omega);have J:=Wd L (a+1) 0 4 (by omega) (by omega);have h2:=H.step (a+1+1) (B-2) (by omega) (by omega);obtain⟨r,M⟩:∃k:Nat,Jq L (a+1) 0 4=(k:Int):=⟨(Jq L (a+1) 0 4).toNat,by omega⟩;rw[M]at v J;cases r with
  |zero =>
   have p:=Yb h2 (by omega) 3;have C:=ZD L (a+1+1) 3 (by omega) (by omega);obtain⟨u,D⟩:∃k:Nat,ZS L (a+1+1) 3=(k:Int):=⟨(ZS L (a+1+1) 3).toNat,by omega⟩;rw[D]at p C;have h3:=h2.step (a+1+1+1) (B-3) (by omega) (by omega);obtain⟨is,a',U,W,E,q⟩:=ZqI (L:=L) nm [ZoN] ⟨by simp,by simp,by simp,by simp⟩ [idB] _ _ _ (.inl ⟨rfl,rfl,rfl⟩) u (by omega) u 0 [] _ _ (by omega) h3 (by omega) ZkV (fun x y=>absurd y (by simp)) ZhN;refine⟨⟨nm,[ZoN],[idB],[],is⟩,a',?_,by omega,by omega,⟨o,⟨by simp,by simp,by simp,by simp⟩,by simp,by simp,rfl,E.1,E.2.1,E.2.2⟩,rfl⟩;simp only[SLs,VI,Ug,Vi,VO,Vz,Zh]at q;rw[Zk0];simp only[go_sem,simprocAttr,f12,A,v];rw[Ze];simp only[go_sem,simprocAttr,p];rw[q _ _ 0 ?_ rfl]
   ·simp only[go_sem,simprocAttr,YV,Vd,or_self];rfl
   rfl
  |succ r =>
   obtain⟨s,es,X⟩:=Ziv 0 (by omega);rw[show(97+((0:Nat):Int))=97 from rfl]at es;obtain⟨c,Q,y1,U,W,E⟩:=Zjm h2 (by omega) (99::s);have h3:=h2.step Q (B-30) (by omega) (by omega);obtain⟨cols,e,Y,Z,g,S,f⟩:=Zwx (L:=L) nm (r+1) (by omega) _ _ 3 (.inl ⟨rfl,rfl,rfl⟩) r 1 [ZoN,c] Q (B-30) 2 (by omega) (by omega) h3 (by omega) (cols_id.add c (by rw[E];simp;omega));have F:=h3.step e (B-130) (by omega) (by omega);have p:=Yb F (by omega) 3;have C:=ZD L e 3 (by omega) (by omega);obtain⟨u,D⟩:∃k:Nat,ZS L e 3=(k:Int):=⟨(ZS L e 3).toNat,by omega⟩;rw[D]at p C;have N:=F.step (e+1) (B-131) (by omega) (by omega);have b:ColsOk cols 6:=⟨by have:=g.len;omega,g.pos,g.nm,g.id⟩;obtain⟨is,a',w1,w2,w,q⟩:=ZqI (L:=L) nm cols b [idB] _ _ _ (.inr (.inl ⟨rfl,rfl,rfl⟩)) u (by omega) u 0 [] _ _ (by omega) N (by omega) ZkV (fun x y=>absurd y (by simp)) ZhN;refine⟨⟨nm,cols,[idB],[],is⟩,a',?_,by omega,by omega,⟨o,b,by simp,fun n o=>by rw[VH]at o;rw[o];exact b.id,rfl,w.1,w.2.1,w.2.2⟩,rfl⟩;have st:(1+s.length≤Xa)=True:=V5 (by unfold Xa;omega);have O:(130≤Zp)=True:=V5 (by unfold Zp;omega);have d:((0:Int)<(r:Int)+1)=True:=V5 (by omega);have T:(((r+1:Nat)):Int)=(r:Int)+1:=by omega
   simp only[VI,VC,VZ,Nat.reduceAdd,Vi,Vl,SLs,VO,Vz,Zh]at q f y1;rw[T]at v;simp only[T]at f;rw[Zk0];simp only[go_sem,simprocAttr,f12,A,v];rw[Ze];simp only[go_sem,simprocAttr,d,es,st,O,y1];rw[f _ _ 1 ?_ rfl]
   ·simp only[go_sem,simprocAttr,p,Zw,Vd];rw[q _ _ 0 ?_ rfl]
    ·simp only[go_sem,simprocAttr,YV,Vd,or_self];rfl
    rfl
   rfl
 |true =>
  rw[f]at A;obtain⟨x,y,y0⟩:=ZdU H (by omega) [2,3,1] (by decide) (by decide);have G:=H.step (a+1+1) (B-2) (by omega) (by omega);have v:=WU G (by omega) 0 4 (by omega) (by omega) (by omega);have J:=Wd L (a+1+1) 0 4 (by omega) (by omega);have h2:=G.step (a+1+1+1) (B-3) (by omega) (by omega);obtain⟨r,M⟩:∃k:Nat,Jq L (a+1+1) 0 4=(k:Int):=⟨(Jq L (a+1+1) 0 4).toNat,by omega⟩;rw[M]at v J;obtain⟨cols,e,Y,Z,g,S,f⟩:=Zwx (L:=L) nm r (by omega) _ _ 5 (.inr ⟨rfl,rfl,rfl⟩) r 0 [ZoN,⟨kB,x,false,⟨0,0,[]⟩⟩] _ (B-3) 2 (by omega) (by omega) h2 (by omega) (cols_id.add _ (by simp));have F:=h2.step e (B-130) (by omega) (by omega);have p:=Yb F (by omega) 3;have C:=ZD L e 3 (by omega) (by omega);obtain⟨u,D⟩:∃k:Nat,ZS L e 3=(k:Int):=⟨(ZS L e 3).toNat,by omega⟩;rw[D]at p C;have N:=F.step (e+1) (B-131) (by omega) (by omega);have b:ColsOk cols 6:=⟨by have:=g.len;omega,g.pos,g.nm,g.id⟩;obtain⟨is,a',w1,w2,w,q⟩:=ZqI (L:=L) nm cols b [idB,kB] _ _ _ (.inr (.inr ⟨rfl,rfl,rfl⟩)) u (by omega) u 0 [] _ _ (by omega) N (by omega) ZkV (fun x y=>absurd y (by simp)) ZhN;refine⟨⟨nm,cols,[idB,kB],[],is⟩,a',?_,by omega,by omega,⟨o,b,by simp,fun n o=>S n (by simpa using o),rfl,w.1,w.2.1,w.2.2⟩,rfl⟩;have O:(130≤Zp)=True:=V5 (by unfold Zp;omega);have P:(34≤Zp)=True:=V5 (by unfold Zp;omega);simp only[VI,VC,VZ,Nat.reduceAdd,Vi,Vl,SLs,VO,Vz,Zh]at q f y0;rw[Zk0];simp only[go_sem,simprocAttr,f12,A,y0,v,O,P];rw[f _ _ 0 ?_ rfl]
  ·simp only[go_sem,simprocAttr,p,Zw,Vd];rw[q _ _ 0 ?_ rfl]
   ·simp only[go_sem,simprocAttr,YV,Vd,or_self];rfl
   rfl
  rfl
end
theorem Z5:∀l:List Tbl,Zz (l.map Zc)=[]
 |[]=>rfl
 |x::l=>by simpa[Zc,Zz,Zg,locs]using Z5 l
theorem Xy:∀l:List Fgn,Zz (l.map Z7)=[]
 |[]=>rfl
 |x::l=>by simpa[Z7,Zz,Zg,locs]using Xy l
theorem Zgu:∀l:List Tbl,Y1 5 (l.map Zc)=true
 |[]=>rfl
 |c::l=>by simpa[Y1,Zc]using Zgu l
theorem ZgK:∀l:List Fgn,Y1 3 (l.map Z7)=true
 |[]=>rfl
 |c::l=>by simpa[Y1,Z7]using ZgK l
theorem ZgN:∀l:List Idx,Y1 3 (l.map Yq)=true
 |[]=>rfl
 |c::l=>by simpa[Y1,Yq]using ZgN l
theorem Zvb(l:List Tbl)(c:Tbl):l.map Zc++[Zc c]=(l++[c]).map Zc:=by simp
theorem ZfF(l:List Fgn)(c:Fgn):l.map Z7++[Z7 c]=(l++[c]).map Z7:=by simp
theorem Zdq{f:α→List AV}{l:List α}(h:1≤l.length):(l.map f).isEmpty=false:=by
 cases l with
 |nil=>simp at h
 |cons a l=>rfl
theorem Znw(x:List Tbl)(o:x.length≤1000000):R K (.call 17 [.rows (x.map Zc)] [])=some (.own 0 x.length,[.rows 5 (x.map Zc) true]):=by
 rcases Ut x.length with b|h
 ·have c:x=[]:=VS.1 b;subst c;exact ZeF rfl rfl
 have e:=Zdq (f:=Zc) h;have g:(x.length*113≤Zp)=True:=V5 (by unfold Zp;omega);have d:(0<x.length)=True:=V5 (by omega);have k:K.prim 17 [.rows (x.map Zc)]=none:=rfl;have hh:K.primH 17 [.rows (x.map Zc)] []=none:=by
  cases x with
  |nil=>simp at h
  |cons a x=>rfl
 rw[Zya k hh];simp only[go_sem,simprocAttr,f17,e,g,d,Zgu,Z5,Vd,VI,VZ,Vi]
theorem Zan(x:List Fgn)(o:x.length≤1000000):R K (.call 19 [.rows (x.map Z7)] [])=some (.own 0 x.length,[.rows 3 (x.map Z7) true]):=by
 rcases Ut x.length with b|h
 ·have c:x=[]:=VS.1 b;subst c;exact ZeF rfl rfl
 have e:=Zdq (f:=Z7) h;have g:(x.length*57≤Zp)=True:=V5 (by unfold Zp;omega);have d:(0<x.length)=True:=V5 (by omega);have k:K.prim 19 [.rows (x.map Z7)]=none:=rfl;have hh:K.primH 19 [.rows (x.map Z7)] []=none:=by
  cases x with
  |nil=>simp at h
  |cons a x=>rfl
 rw[Zyd k hh];simp only[go_sem,simprocAttr,f19,e,g,d,ZgK,Xy,Vd,VI,VZ,Vi]
theorem Zau(x:List Idx)(o:x.length≤1000000):R K (.call 22 [.rows (x.map Yq)] [])=some (.own 0 x.length,[.rows 3 (x.map Yq) true]):=by
 rcases Ut x.length with b|h
 ·have c:x=[]:=VS.1 b;subst c;exact ZeF rfl rfl
 have e:=Zdq (f:=Yq) h;have g:(x.length*49≤Zp)=True:=V5 (by unfold Zp;omega);have d:(0<x.length)=True:=V5 (by omega);have k:K.prim 22 [.rows (x.map Yq)]=none:=rfl;have hh:K.primH 22 [.rows (x.map Yq)] []=none:=by
  cases x with
  |nil=>simp at h
  |cons a x=>rfl
 rw[ZxE k hh];simp only[go_sem,simprocAttr,f22,e,g,d,ZgN,YV,Vd,VI,VZ,Vi]
theorem ZfA(x:List Col)(o:x.length≤1000000):R K (.call 21 [.rows (x.map Zh)] [])=some (.own 0 x.length,[.rows 6 (x.map Zh) true]):=by
 rcases Ut x.length with b|h
 ·have c:x=[]:=VS.1 b;subst c;exact ZeF rfl rfl
 have e:=Zdq (f:=Zh) h;have g:(x.length*65≤Zp)=True:=V5 (by unfold Zp;omega);have d:(0<x.length)=True:=V5 (by omega);have k:K.prim 21 [.rows (x.map Zh)]=none:=rfl;have hh:K.primH 21 [.rows (x.map Zh)] []=none:=by
  cases x with
  |nil=>simp at h
  |cons a x=>rfl
 rw[ZxS k hh];simp only[go_sem,simprocAttr,f21,e,g,d,Qt,Zw,Vd,VI,VZ,Vi]
def ZAB(m:Nat)(x:List Tbl):Prop:=x.length=m∧(∀t∈x,GenT t)∧∀(i:Nat) (t:Tbl),x[i]?=some t→t.nm=116::(Utf8.encode (Zx .i32 (97+(i:Int)))).data.toList
section
variable{L:List Int}
theorem ZzV(n:Nat)(D:n≤3):∀(q j:Nat) (x:List Tbl) (a B:Int),n=j+q→Gd L a B→(200*q:Int)≤B→ZAB j x →
  ∃(g:List Tbl) (a':Int),a≤a'∧a'≤a+200*q∧ZAB n g∧∀(ks:List It) (e:Code) (jj:Int),YP f4 0 e→jj=(j:Int) →
  RL K (.run 4 1 (.code e::.lp e (some ([0,2,3,16,17],[])) 4::.blk 0 4::ks) [(0,.ptr 0 0),(2,.ptr 1 0),(3,.ptr 2 0),(16,I (n:Int)),(17,I jj)] [.cells [LR L,I a],.cells [.nils],.cells [.own 3 x.length],.rows 5 (x.map Zc) false]) =
  R K (.run 4 1 ks [(0,.ptr 0 0),(2,.ptr 1 0),(3,.ptr 2 0)] [.cells [LR L,I a'],.cells [.nils],.cells [.own 3 g.length],.rows 5 (g.map Zc) false])
 |0,j,x,a,B,E,p,r,b=>by
  have d:¬(j:Int)<(n:Int):=by omega
  refine⟨x,a,by omega,by omega,⟨by have:=b.1;omega,b.2.1,b.2.2⟩,fun ks e jj f v=>?_⟩;subst v;simp only[go_sem,simprocAttr,f4]at f;subst f;rw[Ze];simp only[go_sem,simprocAttr,d,Z5]
 |q+1,j,x,a,B,E,p,r,b=>by
  have d:(j:Int)<(n:Int):=by omega
  have F:=ZQ (i:=j) (n:=n) (by omega) (by omega);obtain⟨s,es,G⟩:=Ziv j (by omega);have w1:Zx .i64 (97+(j:Int))=97+(j:Int):=Zq (by omega) (by omega);obtain⟨t,H,A,S,T,J,M⟩:=Zqc p (by omega) (116::s) (by simp;omega);have w:∀(i:Nat) (u:Tbl),(x++[t])[i]?=some u→u.nm=116::(Utf8.encode (Zx .i32 (97+(i:Int)))).data.toList:=by
   intro i u c;by_cases hi:i<x.length
   ·rw[Vh hi]at c;exact b.2.2 i u c
   rw[Vy (by omega)]at c;obtain⟨k,N⟩:∃k,i=x.length+k:=⟨i-x.length,by omega⟩;subst N;cases k with
   |zero =>
    have y:=b.1;simp only[Ug,UJ,Vt,Va]at c;rw[←c,M,Ug,y,es]
   |succ k=>simp at c
  obtain⟨g,a',U,W,O,o⟩:=ZzV n D q (j+1) (x++[t]) H (B-200) (by omega) (p.step _ _ (by omega) (by omega)) (by omega) ⟨by rw[Vu];have:=b.1;simp;omega,fun u c=>by
   rcases Vg.1 c with h|h
   ·exact b.2.1 u h
   rw[VH]at h;rw[h];exact J,w⟩
  refine⟨g,a',by omega,by omega,O,fun ks e jj f v=>?_⟩;subst v;have o:=o ks e _ f rfl;have P:=b.1;have C:=Zvb x t;have Q:((x.length+1)*113≤Zp)=True:=V5 (by unfold Zp;omega);have st:(1+s.length≤Xa)=True:=V5 (by unfold Xa;omega);simp only[Vu,VC,VI,VZ,Zc]at o A C;simp only[go_sem,simprocAttr,f4]at f;subst f;rw[Ze];simp only[go_sem,simprocAttr,d,F,w1,es,st,A,C,Q,Zc,Z5,Vd];exact o
end
theorem ZEk(n:List UInt8)(c:Col):R K (.call 15 [Jy c,.ptr 0 0] (nmH n))=some (.bool (c.nm==n),nmH n):=by rw[ZxM];simp only[go_sem,simprocAttr,f15,Zh]
theorem ZDN(n:List UInt8)(c:Col):ZU nlA (R K) (nmH n) [Jy c] (.fn 15 [.ptr 0 0])=some (.bool (c.nm==n),nmH n):=by have b:=ZEk n c;simp only[Jy,Zh]at b ⊢;simp only[go_sem,simprocAttr,b]
abbrev scH(L:List Int)(a:Int)(x:List Tbl)(u:Tbl)(fnm:List UInt8)(ns:List (List UInt8)):Za:=[.cells [LR L,I a],.cells [.nils],.cells [.rows (x.map Zc)],.hole,.cells (Zc u),.cells [.str fnm,.own 6 ns.length,.str u.nm],.rows 1 (SLs ns) false]
section
variable{L:List Int}
theorem Zq2(x:List Tbl)(t u:Tbl)(v k:List UInt8)(kd r p w:Int)(A:t.cols.length≤1000)(E:Nat)(C:E≤1000)(h:List (List UInt8))(D:h.length≤E):∀(q j:Nat) (a B:Int),t.cols.length=j+q→Gd L a B→(q:Int)≤B →
  ∃(e:List (List UInt8)) (a':Int),a≤a'∧a'≤a+q∧e.length≤E+1∧∀(ks:List It) (o:Code) (jj:Int),YP f4 6 o→jj=(j:Int) →
  RL K (.run 4 1 (.code o::.lp o (some ([0,2,3,5,6,7,10,34,35,67,68,69,85,86,87],[])) 8::.blk 6 8::ks) [(0,.ptr 0 0),(2,.ptr 1 0),(3,.ptr 2 0),(5,.rptr (Zc t) 0),(6,.ptr 4 0),(7,.ptr 5 0),(10,I kd),(34,I r),(35,I p),(67,.rows (SLs u.key)),(68,I (u.key.length:Int)),(69,I w),(85,.rows (t.cols.map Zh)),(86,I (t.cols.length:Int)),(87,I jj)] (scH L a x u v h++[.cells [.str k]])) =
  R K (.run 4 1 ks [(0,.ptr 0 0),(2,.ptr 1 0),(3,.ptr 2 0),(5,.rptr (Zc t) 0),(6,.ptr 4 0),(7,.ptr 5 0),(34,I r),(35,I p),(67,.rows (SLs u.key)),(68,I (u.key.length:Int)),(69,I w)] (scH L a' x u v e++[.cells [.str k]]))
 |0,j,a,B,Y,G,O=>by
  have d:¬(j:Int)<(t.cols.length:Int):=by omega
  refine⟨h,a,by omega,by omega,by omega,fun ks o jj b y=>?_⟩;subst y;simp only[go_sem,simprocAttr,f4]at b;subst b;rw[Ze];simp only[go_sem,simprocAttr,d,Zv,scH,Zc]
 |q+1,j,a,B,Y,G,O=>by
  have d:(j:Int)<(t.cols.length:Int):=by omega
  have P:=ZQ (i:=j) (n:=t.cols.length) (by omega) (by omega);obtain⟨c,Z⟩:=Zu (l:=t.cols) (i:=j) (by omega);have F:=Ym Z;have g:=YR c.nm h (by omega);have S:((h.length+1)*17≤Zp)=True:=V5 (by unfold Zp;omega);have T:=ZqD h c.nm;simp only[Zh]at F;cases H:(c.kd==kd)with
  |false =>
   obtain⟨e,a',M,U,J,f⟩:=Zq2 x t u v k kd r p w A E C h D q (j+1) a B (by omega) G (by omega);refine⟨e,a',M,by omega,J,fun ks o jj b y=>?_⟩;subst y;have f:=f ks o _ b rfl;simp only[scH,Zc,Vl,Vi]at f ⊢;simp only[go_sem,simprocAttr,f4]at b;subst b;rw[Ze];simp only[go_sem,simprocAttr,d,P,F,H,Zv];exact f
  |true =>
   cases W:h.contains c.nm with
   |true =>
    rw[W]at g;obtain⟨e,a',M,U,J,f⟩:=Zq2 x t u v k kd r p w A E C h D q (j+1) a B (by omega) G (by omega);refine⟨e,a',M,by omega,J,fun ks o jj b y=>?_⟩;subst y;have f:=f ks o _ b rfl;simp only[scH,Zc,Vl,Vi]at f ⊢;simp only[go_sem,simprocAttr,f4]at b;subst b;rw[Ze];simp only[go_sem,simprocAttr,d,P,F,H,g,Yh,Zv];exact f
   |false =>
    rw[W]at g;cases Q:(c.nm==[105,100])with
    |false =>
     refine⟨h++[c.nm],a,by omega,by omega,by simp;omega,fun ks o jj b y=>?_⟩;subst y;simp only[scH,Zc,Vl,Vi,Vu,VC,VI,VZ];simp only[go_sem,simprocAttr,f4]at b;subst b;rw[Ze];simp only[go_sem,simprocAttr,d,F,H,Q,g,S,T,Yh,Zv]
    |true =>
     have N:=Xk G (by omega) 6;cases X:ZS L a 6==0 with
     |true =>
      rw[X]at N;refine⟨h++[c.nm],a+1,by omega,by omega,by simp;omega,fun ks o jj b y=>?_⟩;subst y;simp only[scH,Zc,Vl,Vi,Vu,VC,VI,VZ];simp only[go_sem,simprocAttr,f4]at b;subst b;rw[Ze];simp only[go_sem,simprocAttr,d,F,H,Q,N,g,S,T,Yh,Zv]
     |false =>
      rw[X]at N;obtain⟨e,a',M,U,J,f⟩:=Zq2 x t u v k kd r p w A E C h D q (j+1) (a+1) (B-1) (by omega) (G.step _ _ (by omega) (by omega)) (by omega);refine⟨e,a',by omega,by omega,J,fun ks o jj b y=>?_⟩;subst y;have f:=f ks o _ b rfl;simp only[scH,Zc,Vl,Vi]at f ⊢;simp only[go_sem,simprocAttr,f4]at b;subst b;rw[Ze];simp only[go_sem,simprocAttr,d,P,F,H,Q,N,g,Yh,Zv];exact f
theorem Zzx(x:List Tbl)(t u:Tbl)(c:List UInt8)(r p:Int)(v:t.cols.length≤1000)(C:u.cols.length≤1000)(w:u.key.length≤100)(J:∀n∈u.key,n∈u.cols.map (·.nm)):∀(q j:Nat) (f:List (List UInt8)) (a B:Int),u.key.length=j+q→Gd L a B→(1000*q:Int)≤B→f.length≤j →
  ∃(e:List (List UInt8)) (a':Int),a≤a'∧a'≤a+1000*q∧e.length≤u.key.length∧∀(ks:List It) (g:Code) (jj:Int),YP f4 4 g→jj=(j:Int) →
  RL K (.run 4 1 (.code g::.lp g (some ([0,2,3,5,6,7,34,35,67,68,69],[])) 7::.blk 4 7::ks) [(0,.ptr 0 0),(2,.ptr 1 0),(3,.ptr 2 0),(5,.rptr (Zc t) 0),(6,.ptr 4 0),(7,.ptr 5 0),(34,I r),(35,I p),(67,.rows (SLs u.key)),(68,I (u.key.length:Int)),(69,I jj)] (scH L a x u c f)) =
  R K (.run 4 1 ks [(0,.ptr 0 0),(2,.ptr 1 0),(3,.ptr 2 0),(5,.rptr (Zc t) 0),(7,.ptr 5 0),(34,I r),(35,I p)] (scH L a' x u c e))
 |0,j,f,a,B,S,D,E,M=>by
  have d:¬(j:Int)<(u.key.length:Int):=by omega
  refine⟨f,a,by omega,by omega,by omega,fun ks g jj o F=>?_⟩;subst F;simp only[go_sem,simprocAttr,f4]at o;subst o;rw[Ze];simp only[go_sem,simprocAttr,d,Zv,scH,Zc]
 |q+1,j,f,a,B,S,D,E,M=>by
  have d:(j:Int)<(u.key.length:Int):=by omega
  have T:=ZQ (i:=j) (n:=u.key.length) (by omega) (by omega);obtain⟨k,N⟩:=Zu (l:=u.key) (i:=j) (by omega);have U:=J6 N;have W:=J k (Ve N);have y:¬ixN k (u.cols.map (·.nm)) 0<0:=by
   intro h;rcases Zel k (u.cols.map (·.nm)) 0 with O|O
   ·exact(Zb5 k (u.cols.map (·.nm)) 0).1 O W
   omega
  obtain⟨b,X,Y,G⟩:=J0 (t:=u) y;have P:=Ym G;have hi:=Ze1 (.fn 15 [.ptr 0 0]) (nmH k) k (QE k) u.cols (by omega) (ZDN k);rw[Y]at hi;obtain⟨H,Z,p1,p2,p3,Q⟩:=Zq2 (L:=L) x t u c k X.kd r p (j:Int) v j (by omega) f M t.cols.length 0 a B (by omega) D (by omega);obtain⟨e,a',q1,q2,q3,A⟩:=Zzx x t u c r p v C w J q (j+1) H Z (B-1000) (by omega) (D.step _ _ (by omega) (by omega)) (by omega) p3;refine⟨e,a',by omega,by omega,q3,fun ks g jj o F=>?_⟩;subst F;have A:=A ks g _ o rfl;simp only[nmH]at hi;simp only[Zh]at P;simp only[scH,Zc,Vl,Vi]at A Q ⊢;simp only[go_sem,simprocAttr,f4]at o;subst o;rw[Ze];simp only[go_sem,simprocAttr,d,U,P,hi,Vd];rw[Q _ _ 0 ?_ rfl]
  ·simp only[go_sem,simprocAttr,T,Zv];exact A
  rfl
end
structure SzT(t:Tbl)(m:Nat):Prop where
 nm:t.nm.length≤100
 c1:1≤t.cols.length
 cl:t.cols.length≤6
 cn:∀c∈t.cols,c.nm.length≤100
 key:t.key.length≤2
 fl:t.fgn.length≤m
 fg:∀f∈t.fgn,f.nm.length≤100∧f.cols.length≤2
 il:t.idx.length≤m+2
 ix:∀f∈t.idx,f.nm.length≤100∧f.cols.length≤2
theorem SzT.more{m m':Nat}(h:SzT t m)(e:m≤m'):SzT t m':=⟨h.nm,h.c1,h.cl,h.cn,h.key,by have:=h.fl;omega,h.fg,by have:=h.il;omega,h.ix⟩
structure SzX(x:List Tbl)(m:Nat):Prop where
 l1:1≤x.length
 l3:x.length≤3
 tbl:∀t∈x,SzT t m
theorem SzX.fit(h:SzX x m)(g:m≤1000):FitX x:=by
 refine⟨by have:=h.l3;omega,fun t d=>?_⟩;have s:=h.tbl t d;exact⟨by have:=s.nm;omega,by have:=s.cl;omega,by have:=s.key;omega,by have:=s.fl;omega,by have:=s.il;omega,
  fun c e=>by have:=s.cn c e;omega,fun f b=>by have:=s.fg f b;exact⟨by omega,by omega⟩,fun f b=>by have:=s.ix f b;exact⟨by omega,by omega⟩⟩
theorem SzX.set(h:SzX x m)(i:Nat)(c:SzT t m):SzX (x.set i t) m:=by
 refine⟨by rw[Vq];exact h.l1,by rw[Vq];exact h.l3,fun u d=>?_⟩;rcases VL d with b|b
 ·exact h.tbl u b
 rw[b];exact c
theorem SzX.more{x:List Tbl}{m m':Nat}(h:SzX x m)(e:m≤m'):SzX x m':=⟨h.l1,h.l3,fun t b=>(h.tbl t b).more e⟩
def Zu3(x:List Tbl):Prop:=∀t∈x,∀n∈t.key,n∈t.cols.map (·.nm)
theorem ZA5(h:GenT t):SzT t 0:=⟨h.nm,h.cols.pos,h.cols.len,h.cols.nm,h.key,by rw[h.fgn];simp,by rw[h.fgn];simp,by have:=h.idx.1;omega,h.idx.2⟩
theorem Zyb(x:List Tbl)(b:Nat)(nm:List UInt8)(cols:List Col)(key:List (List UInt8))(fgn:List Fgn)(idx:List Idx):
  (x.map Zc).set b [.str nm,.rows (cols.map Zh),.rows (SLs key),.rows (fgn.map Z7),.rows (idx.map Yq)]=(x.set b ⟨nm,cols,key,fgn,idx⟩).map Zc:=by
 rw[V9];rfl
def ZAA(x:List Tbl):Prop:=∀t∈x,Zrj t.cols t.idx
structure MadeX(x:List Tbl):Prop where
 sz:SzX x 3
 right:RightX x
 idx:ZAA x
theorem ZnT:∀i j:Fin 3,(Utf8.encode (Zx .i32 (97+(i.val:Int)))).data.toList=(Utf8.encode (Zx .i32 (97+(j.val:Int)))).data.toList→i=j:=by decide
theorem ZpI(g:n≤3)(h:ZAB n x):RightX x:=by
 have e:∀i,i<x.length→nmA (x.map (·.nm)) i=116::(Utf8.encode (Zx .i32 (97+(i:Int)))).data.toList:=fun i hi=>by have:=h.2.2 i x[i] (VB hi);simpa[nmA,hi]using this
 refine⟨fun i j hi o b=>?_,fun t d=>⟨fun n g=>?_,fun f c=>?_⟩,fun t d f c=>?_⟩
 ·rw[e i hi,e j o]at b;have q:=h.1;have:=ZnT ⟨i,by omega⟩ ⟨j,by omega⟩ (by simpa using b);simpa using this
 ·intro p;rcases Zel n (t.cols.map (·.nm)) 0 with k|k
  ·exact(Zb5 n (t.cols.map (·.nm)) 0).1 k ((h.2.1 t d).keyIn n g)
  omega
 ·rw[(h.2.1 t d).fgn]at c;simp at c
 rw[(h.2.1 t d).fgn]at c;simp at c
section
variable{L:List Int}
theorem Zue(r:Nat)(hr:r≤3):∀(q j:Nat) (x:List Tbl) (a B:Int),r=j+q→Gd L a B→(10000*q:Int)≤B→SzX x j→Zu3 x→RightX x→ZAA x →
  ∃(w:List Tbl) (a':Int),a≤a'∧a'≤a+10000*q∧MadeX w∧∀(ks:List It) (c:Code) (jj:Int),YP f4 2 c→jj=(j:Int) →
  RL K (.run 4 1 (.code c::.lp c (some ([0,2,3,34,35],[])) 4::.blk 2 4::ks) [(0,.ptr 0 0),(2,.ptr 1 0),(3,.ptr 2 0),(34,I (r:Int)),(35,I jj)] [.cells [LR L,I a],.cells [.nils],.cells [.rows (x.map Zc)],.hole]) =
  R K (.run 4 1 ks [(2,.ptr 1 0),(3,.ptr 2 0)] [.cells [LR L,I a'],.cells [.nils],.cells [.rows (w.map Zc)],.hole])
 |0,j,x,a,B,hq,N,O,g,G,P,H=>by
  have d:¬(j:Int)<(r:Int):=by omega
  refine⟨x,a,by omega,by omega,⟨g.more (by omega),P,H⟩,fun ks c jj o Q=>?_⟩;subst Q;simp only[go_sem,simprocAttr,f4]at o;subst o;rw[Ze];simp only[go_sem,simprocAttr,d]
 |q+1,j,x,a,B,hq,N,O,g,G,P,H=>by
  have d:(j:Int)<(r:Int):=by omega
  have h7:=ZQ (i:=j) (n:=r) (by omega) (by omega);have a3:=g.l1;have a4:=g.l3;have S:=Yb N (by omega) (x.length:Int);have b0:=ZD L a (x.length:Int) (by omega) (by omega);obtain⟨i,hi⟩:∃k:Nat,ZS L a (x.length:Int)=(k:Int):=⟨(ZS L a (x.length:Int)).toNat,by omega⟩;rw[hi]at S b0;have G1:=N.step (a+1) (B-1) (by omega) (by omega);have T:=Yb G1 (by omega) (x.length:Int);have b1:=ZD L (a+1) (x.length:Int) (by omega) (by omega);obtain⟨k,hk⟩:∃k:Nat,ZS L (a+1) (x.length:Int)=(k:Int):=⟨(ZS L (a+1) (x.length:Int)).toNat,by omega⟩;rw[hk]at T b1;have G2:=G1.step (a+1+1) (B-2) (by omega) (by omega);obtain⟨t,ht⟩:=Zu (l:=x) (i:=i) (by omega);obtain⟨u,hu⟩:=Zu (l:=x) (i:=k) (by omega);have U:=YF ht;have W:=YF hu;have mt:=Ve ht;have mu:=Ve hu;have st:=g.tbl t mt;have su:=g.tbl u mu;have a5:=st.fl;have a6:=st.cl;have a7:=su.cl;have uk:=su.key;obtain⟨s,es,a8⟩:=Ziv t.fgn.length (by omega);have w1:Zx .i64 (97+(t.fgn.length:Int))=97+(t.fgn.length:Int):=Zq (by omega) (by omega);have sm:(1+s.length≤Xa)=True:=V5 (by unfold Xa;omega);obtain⟨p,D,p1,p2,p3,X⟩:=Zzx (L:=L) x t u (102::s) (r:Int) (j:Int) (by omega) (by omega) (by omega) (G u mu) u.key.length 0 [] (a+1+1) (B-2) (by omega) G2 (by omega) (by simp);have G3:=G2.step D (B-5000) (by omega) (by omega);have J:¬ixN t.nm (x.map (·.nm)) 0<0:=by
   intro h;rcases Zel t.nm (x.map (·.nm)) 0 with e|e
   ·exact(Zb5 t.nm (x.map (·.nm)) 0).1 e (VE.2 ⟨t,mt,rfl⟩)
   omega
  obtain⟨b,v,hb,M⟩:=Zmj J;have Y:=YT x t.nm (by omega);rw[hb]at Y;have Z:=Ve M;have A:=g.tbl v Z;have gv:=YF M;have C:(x.map Zc)[b]?=some (Zc v):=by simp[M]
  have cT:=Znw x (by omega);have hN:SzX (x.set b ⟨v.nm,v.cols,v.key,t.fgn++[⟨102::s,p,u.nm⟩],v.idx⟩) (j+1):=by
   refine(g.more (by omega)).set b ⟨A.nm,A.c1,A.cl,A.cn,A.key,by simp;omega,fun f hf=>?_,by have:=A.il;show v.idx.length≤_;omega,A.ix⟩;rcases Vg.1 hf with h|h
   ·exact st.fg f h
   rw[VH]at h;subst h;exact⟨by simp;omega,by show p.length≤2;omega⟩
  have a0:Zu3 (x.set b ⟨v.nm,v.cols,v.key,t.fgn++[⟨102::s,p,u.nm⟩],v.idx⟩):=by
   intro y hy;rcases VL hy with e|e
   ·exact G y e
   rw[e];exact G v Z
  have a2:ZAA (x.set b ⟨v.nm,v.cols,v.key,t.fgn++[⟨102::s,p,u.nm⟩],v.idx⟩):=by
   intro y hy;rcases VL hy with e|e
   ·exact H y e
   rw[e];exact H v Z
  have xF:=Xp _ (hN.fit (by omega));have fa:=ZfF t.fgn ⟨102::s,p,u.nm⟩;have se:=Zyb x b v.nm v.cols v.key (t.fgn++[⟨102::s,p,u.nm⟩]) v.idx;have lb:b<x.length:=(Vb.1 M).1;have i1:x.length-1-(x.length-1-b)=b:=by omega
  have i2:(x.length-1-b<x.length)=True:=V5 (by omega);have g5:∀row,((x.map Zc).set b row)[b]?=some row:=fun row=>Vf (by simpa using lb);have rm:((t.fgn.length+1)*57≤Zp)=True:=V5 (by unfold Zp;omega);have a9:(57≤Zp)=True:=V5 (by unfold Zp;omega);have tb:((b:Int).toNat)=b:=Vk b;have c1:t.fgn=[]∨1≤t.fgn.length:=by
   cases t.fgn with
   |nil=>exact .inl rfl
   |cons a b=>exact .inr (by simp)
  simp only[Zc,Z7]at U W gv C fa;simp only[scH,Zc,Zll,VI]at X;have yl:(x.set b ⟨v.nm,v.cols,v.key,t.fgn++[⟨102::s,p,u.nm⟩],v.idx⟩).length=x.length:=Vq;generalize(x.set b ⟨v.nm,v.cols,v.key,t.fgn++[⟨102::s,p,u.nm⟩],v.idx⟩)=y at *;obtain⟨w,a',q1,q2,q3,E⟩:∃(w:List Tbl) (a':Int),D≤a'∧a'≤D+10000*q∧MadeX w∧∀(ks:List It) (c:Code) (jj:Int),YP f4 2 c→jj=((j+1:Nat):Int) →
    RL K (.run 4 1 (.code c::.lp c (some ([0,2,3,34,35],[])) 4::.blk 2 4::ks) [(0,.ptr 0 0),(2,.ptr 1 0),(3,.ptr 2 0),(34,I (r:Int)),(35,I jj)] [.cells [LR L,I D],.cells [.nils],.cells [.rows ((if X8 y=0 then y else x).map Zc)],.hole]) =
    R K (.run 4 1 ks [(2,.ptr 1 0),(3,.ptr 2 0)] [.cells [LR L,I a'],.cells [.nils],.cells [.rows (w.map Zc)],.hole]):=by
   split
   ·rename_i F;exact Zue r hr q (j+1) y D (B-10000) (by omega) (G3.step _ _ (by omega) (by omega)) (by omega) hN a0 (Zsw F) a2
   exact Zue r hr q (j+1) x D (B-10000) (by omega) (G3.step _ _ (by omega) (by omega)) (by omega) (g.more (by omega)) G P H
  refine⟨w,a',by omega,by omega,q3,fun ks c jj o Q=>?_⟩;subst Q;have E:=E ks c _ o rfl;have e0:(X8 y==0)=decide (X8 y=0):=rfl;have cF:=Zan t.fgn (by omega);by_cases F:X8 y=0
  ·rw[Vr F]at E;have d0:(X8 y==0)=true:=by simpa using F
   simp only[go_sem,simprocAttr,f4]at o;subst o;rw[Ze];simp only[go_sem,simprocAttr,d,S,T,U,W,es,w1,sm,Vd];rw[X _ _ 0 ?_ rfl]
   ·simp only[go_sem,simprocAttr,h7,cT,Y,cF,gv,C,fa,se,rm,d0,xF,tb,yl,i1,i2,g5,Uq,Vd,Z5,Xy,Zv];exact E
   rfl
  rw[Vm F]at E;have d0:(X8 y==0)=false:=by simpa using F
  simp only[go_sem,simprocAttr,f4]at o;subst o;rw[Ze];simp only[go_sem,simprocAttr,d,S,T,U,W,es,w1,sm,Vd];rw[X _ _ 0 ?_ rfl]
  ·simp only[go_sem,simprocAttr,h7,cT,Y,cF,gv,C,fa,se,rm,d0,xF,tb,yl,i1,i2,g5,Uq,Vd,Z5,Xy,Zv];exact E
  rfl
theorem Zt7{a B:Int}(h:Gd L a B)(D:50000≤B):∃(x:List Tbl) (a':Int),R K (.call 4 [.ptr 0 0] (St L a))=some (ZX x,St L a')∧a≤a'∧a'≤a+50000∧MadeX x:=by
 have e:=WU h (by omega) 1 3 (by omega) (by omega) (by omega);have p:=Wd L a 1 3 (by omega) (by omega);obtain⟨n,q⟩:∃k:Nat,Jq L a 1 3=(k:Int):=⟨(Jq L a 1 3).toNat,by omega⟩;rw[q]at e p;have f:=h.step (a+1) (B-1) (by omega) (by omega);obtain⟨x,b,E,F,c,g⟩:=ZzV (L:=L) n (by omega) n 0 [] (a+1) (B-1) (by omega) f (by omega) ⟨rfl,by simp,by simp⟩;have h2:=f.step b (B-1000) (by omega) (by omega);have o:=Yb h2 (by omega) 4;have u:=ZD L b 4 (by omega) (by omega);obtain⟨r,v⟩:∃k:Nat,ZS L b 4=(k:Int):=⟨(ZS L b 4).toNat,by omega⟩;rw[v]at o u;have h3:=h2.step (b+1) (B-1001) (by omega) (by omega);have w:=c.1;obtain⟨y,a',G,H,A,C⟩:=Zue (L:=L) r (by omega) r 0 x (b+1) (B-1001) (by omega) h3 (by omega) ⟨by omega,by omega,fun t d=>ZA5 (c.2.1 t d)⟩ (fun t d=>(c.2.1 t d).keyIn) (ZpI (by omega) c) (fun t d=>(c.2.1 t d).idxIn);refine⟨y,a',?_,by omega,by omega,A⟩;simp only[VI,VO]at g;rw[ZAJ];simp only[go_sem,simprocAttr,f4,e];rw[g _ _ 0 ?_ rfl]
 ·simp only[go_sem,simprocAttr,o,Z5,Vd];rw[C _ _ 0 ?_ rfl]
  ·simp only[go_sem,simprocAttr]
  rfl
 rfl
end
theorem Zj0{f:List AV→Option (List AV)}(b:∀u:Tbl,f (Zc u)=some (Zc u)):∀x:List Tbl,Yp f (x.map Zc)=some (x.map Zc)
 |[]=>rfl
 |v::x=>by simp only[Vz,Yp,b];rw[Zj0 b x];simp[Zc,Zg,locs,singles,single]
theorem Zcc{f:List AV→Option (List AV)}{RO:List AV}{t:Tbl}(b:∀u:Tbl,f (Zc u)=some (Zc u))(c:f RO=some (Zc t))(d:RO.length=5):∀(x:List Tbl) (i:Nat),i<x.length→Yp f ((x.map Zc).set i RO)=some ((x.set i t).map Zc)
 |[],i,h=>by simp at h
 |u::x,0,_=>by simp only[Vz,SY,Yp,c,Zj0 b x];rw[Vr ⟨rfl,by rw[d];rfl,rfl⟩]
 |u::x,i+1,h=>by have e:=Zcc b c d x i (by simpa using h);simp only[Vz,Sz,Yp,b];rw[e];simp[Zc,Zg,locs,singles,single]
theorem Zeq{RO:List AV}{l:Nat}(b:l∈Zg RO):∀(x:List Tbl) (i:Nat),i<x.length→Zz ((x.map Zc).set i RO)≠[]
 |[],i,h=>by simp at h
 |u::x,0,_=>by intro e;simp only[Vz,SY,Zz,Uy]at e;rw[e.1]at b;simp at b
 |u::x,i+1,h=>by intro e;simp only[Vz,Sz,Zz,Uy]at e;exact Zeq b x i (by simpa using h) e.2
theorem ZrF(x:List Tbl)(i:Nat)(hi:i<x.length)(nm:List UInt8)(cols:List Col)(key:List (List UInt8))(fgn:List Fgn)(idx:List Idx)(h:Za)(b:h[4]?=some (.rows 6 (cols.map Zh) true)):
  (if Zz ((x.map Zc).set i [.str nm,.own 4 cols.length,.rows (SLs key),.rows (fgn.map Z7),.rows (idx.map Yq)])=[]then some ((x.map Zc).set i [.str nm,.own 4 cols.length,.rows (SLs key),.rows (fgn.map Z7),.rows (idx.map Yq)])else Yp (Yl (XW (Yp (Yl (XW fun _=>none) false 1 h))) false 1 h) ((x.map Zc).set i [.str nm,.own 4 cols.length,.rows (SLs key),.rows (fgn.map Z7),.rows (idx.map Yq)])) =
  some ((x.set i ⟨nm,cols,key,fgn,idx⟩).map Zc):=by
 rw[Vm (Zeq (l:=4) (by simp[Zg,locs]) x i hi)];refine Zcc (f:=Yl (XW (Yp (Yl (XW fun _=>none) false 1 h))) false 1 h) (RO:=[.str nm,.own 4 cols.length,.rows (SLs key),.rows (fgn.map Z7),.rows (idx.map Yq)]) (fun u=>rfl) ?_ rfl x i hi;simp only[Yl,Yx,b,Vd,XW,Zw,V7,Zc];simp
theorem Zce(x:List Tbl)(i:Nat)(hi:i<x.length)(nm:List UInt8)(cols:List Col)(key:List (List UInt8))(fgn:List Fgn)(idx:List Idx)(h:Za)(b:h[4]?=some (.rows 6 (cols.map Zh) true))(n:Nat)(c:idx.length=n)(d:h[5]?=some (.rows 3 (idx.map Yq) true)):
  (if Zz ((x.map Zc).set i [.str nm,.own 4 cols.length,.rows (SLs key),.rows (fgn.map Z7),.own 5 n])=[]then some ((x.map Zc).set i [.str nm,.own 4 cols.length,.rows (SLs key),.rows (fgn.map Z7),.own 5 n])else Yp (Yl (XW (Yp (Yl (XW fun _=>none) false 1 h))) false 1 h) ((x.map Zc).set i [.str nm,.own 4 cols.length,.rows (SLs key),.rows (fgn.map Z7),.own 5 n])) =
  some ((x.set i ⟨nm,cols,key,fgn,idx⟩).map Zc):=by
 rw[Vm (Zeq (l:=4) (by simp[Zg,locs]) x i hi)];refine Zcc (f:=Yl (XW (Yp (Yl (XW fun _=>none) false 1 h))) false 1 h) (RO:=[.str nm,.own 4 cols.length,.rows (SLs key),.rows (fgn.map Z7),.own 5 n]) (fun u=>rfl) ?_ rfl x i hi;simp only[Yl,Yx,b,d,c,Vd,XW,Zw,YV,V7,Zc];simp
theorem Zd9(x:List Tbl)(i:Nat)(hi:i<x.length)(nm:List UInt8)(cols:List Col)(key:List (List UInt8))(fgn:List Fgn)(idx:List Idx)(h:Za)(b:h[4]?=some (.rows 6 (cols.map Zh) true))(n:Nat)(c:fgn.length=n)(d:h[5]?=some (.rows 3 (fgn.map Z7) true)):
  (if Zz ((x.map Zc).set i [.str nm,.own 4 cols.length,.rows (SLs key),.own 5 n,.rows (idx.map Yq)])=[]then some ((x.map Zc).set i [.str nm,.own 4 cols.length,.rows (SLs key),.own 5 n,.rows (idx.map Yq)])else Yp (Yl (XW (Yp (Yl (XW fun _=>none) false 1 h))) false 1 h) ((x.map Zc).set i [.str nm,.own 4 cols.length,.rows (SLs key),.own 5 n,.rows (idx.map Yq)])) =
  some ((x.set i ⟨nm,cols,key,fgn,idx⟩).map Zc):=by
 rw[Vm (Zeq (l:=4) (by simp[Zg,locs]) x i hi)];refine Zcc (f:=Yl (XW (Yp (Yl (XW fun _=>none) false 1 h))) false 1 h) (RO:=[.str nm,.own 4 cols.length,.rows (SLs key),.own 5 n,.rows (idx.map Yq)]) (fun u=>rfl) ?_ rfl x i hi;simp only[Yl,Yx,b,d,c,Vd,XW,Zw,Xy,V7,Zc];simp
theorem Zs6(a:α)(l:List α):at? (a::l) 0=some a:=rfl
theorem Zu4(a b:α)(l:List α):at? (a::b::l) 1=some b:=rfl
theorem Zta(a b c:α)(l:List α):at? (a::b::c::l) 2=some c:=rfl
theorem Zz0(a b c d:α)(l:List α):at? (a::b::c::d::l) 3=some d:=rfl
theorem Zez(l:List Col)(j:Nat)(c:Col):(l.map Zh).set j [.str c.nm,.int .i64 c.kd,.bool c.nl,.int .i64 c.df.k,.int .i64 c.df.n,.str c.df.s]=(l.set j c).map Zh:=by rw[V9];rfl
section
variable{L:List Int}{a B:Int}
set_option maxHeartbeats 4000000 in
theorem ZsK(h:Gd L a B)(hB:1000≤B)(x:List Tbl)(m:Nat)(hm:m≤100)(hx:SzX x m):∃(x':List Tbl) (a':Int),R K (.call 6 [.ptr 0 0,ZX x] (St L a))=some (ZX x',St L a')∧a≤a'∧a'≤a+1000∧SzX x' (m+1):=by
 have C:=hx.l1;have a4:=hx.l3;have D:=Znw x (by omega);have y:=Yb h (by omega) (x.length:Int);have b0:=ZD L a (x.length:Int) (by omega) (by omega);obtain⟨i,hi⟩:∃k:Nat,ZS L a (x.length:Int)=(k:Int):=⟨(ZS L a (x.length:Int)).toNat,by omega⟩;rw[hi]at y b0;have w:i<x.length:=by omega
 obtain⟨t,ht⟩:=Zu (l:=x) (i:=i) (by omega);have st:=hx.tbl t (Ve ht);have A:=YF ht;have o:(x.map Zc)[i]?=some (Zc t):=by simp[ht]
 have h2:=h.step (a+1) (B-1) (by omega) (by omega);have E:=Yb h2 (by omega) 8;have b1:=ZD L (a+1) 8 (by omega) (by omega);have h3:=h2.step (a+1+1) (B-2) (by omega) (by omega);have z:((x.length:Int)==0)=false:=by rw[←U2,Up];omega
 have a5:=st.c1;have a6:=st.cl;have F:=ZfA t.cols (by omega);have G:∀R,((x.map Zc).set i R)[i]?=some R:=fun R=>by rw[Vf (by rw[Vd];exact w)]
 have N:∀R R',((x.map Zc).set i R).set i R'=(x.map Zc).set i R':=fun R R'=>Uq ..;have ls:∀R,((x.map Zc).set i R).length=x.length:=fun R=>by rw[Vq,Vd]
 have lv:=ZrF x i w;have O:∀t',SzT t' (m+1)→SzX (x.set i t') (m+1):=fun t' a0=>(hx.more (by omega)).set i a0;have g:=st.more (Nat.le_succ m);simp only[Zc]at A o;generalize ZS L (a+1) 8=c at *;have c8:c=0∨c=1∨c=2∨c=3∨c=4∨c=5∨c=6∨c=7:=by omega
 rcases c8 with rfl|rfl|rfl|rfl|rfl|rfl|rfl|rfl
 ·have p:=Yb h3 (by omega) 6;obtain⟨s,hs,H⟩:=ZdZ (l:=[[],[116,97],[116,98],[84],[116,95],[95,116]]) (ZD L (a+1+1) 6 (by omega) (by omega));have U:s.length≤5:=(by decide:∀x∈([[],[116,97],[116,98],[84],[116,95],[95,116]]:List (List UInt8)),x.length≤5) s hs;simp only[List.map]at H;refine⟨x.set i ⟨s,t.cols,t.key,t.fgn,t.idx⟩,a+1+1+1,?_,by omega,by omega,O _ ⟨by show s.length≤100;omega,g.c1,g.cl,g.cn,g.key,g.fl,g.fg,g.il,g.ix⟩⟩;rw[W1];simp only[go_sem,simprocAttr,f6,z,D,y,E,p,H,A,o,G,N,ls,lv,F,Vk,Vd,Z5,Zw,Ub]
 ·have p:=Yb h3 (by omega) 4;have Z:=ZD L (a+1+1) 4 (by omega) (by omega);generalize ZS L (a+1+1) 4=d at *;have d4:d=0∨d=1∨d=2∨d=3:=by omega
  rcases d4 with rfl|rfl|rfl|rfl
  ·refine⟨x.set i ⟨t.nm,t.cols,[],t.fgn,t.idx⟩,a+1+1+1,?_,by omega,by omega,O _ ⟨g.nm,g.c1,g.cl,g.cn,by simp,g.fl,g.fg,g.il,g.ix⟩⟩;have lv:=lv t.nm t.cols [] t.fgn t.idx;rw[Zll]at lv;rw[W1];simp only[go_sem,simprocAttr,f6,z,D,y,E,p,A,o,G,N,ls,lv,F,Vk,Vd,Z5,Zw,Ub,Zs6]
  ·refine⟨x.set i ⟨t.nm,t.cols,[[105,100],[105,100]],t.fgn,t.idx⟩,a+1+1+1,?_,by omega,by omega,O _ ⟨g.nm,g.c1,g.cl,g.cn,by simp,g.fl,g.fg,g.il,g.ix⟩⟩;have lv:=lv t.nm t.cols [[105,100],[105,100]] t.fgn t.idx;simp only[SLs,Vz,VO]at lv;rw[W1];simp only[go_sem,simprocAttr,f6,z,D,y,E,p,A,o,G,N,ls,lv,F,Vk,Vd,Z5,Zw,Ub,Zu4]
  ·refine⟨x.set i ⟨t.nm,t.cols,[[122,122]],t.fgn,t.idx⟩,a+1+1+1,?_,by omega,by omega,O _ ⟨g.nm,g.c1,g.cl,g.cn,by simp,g.fl,g.fg,g.il,g.ix⟩⟩;have lv:=lv t.nm t.cols [[122,122]] t.fgn t.idx;simp only[SLs,Vz,VO]at lv;rw[W1];simp only[go_sem,simprocAttr,f6,z,D,y,E,p,A,o,G,N,ls,lv,F,Vk,Vd,Z5,Zw,Ub,Zta]
  refine⟨x.set i ⟨t.nm,t.cols,[[99,97]],t.fgn,t.idx⟩,a+1+1+1,?_,by omega,by omega,O _ ⟨g.nm,g.c1,g.cl,g.cn,by simp,g.fl,g.fg,g.il,g.ix⟩⟩;have lv:=lv t.nm t.cols [[99,97]] t.fgn t.idx;simp only[SLs,Vz,VO]at lv;rw[W1];simp only[go_sem,simprocAttr,f6,z,D,y,E,p,A,o,G,N,ls,lv,F,Vk,Vd,Z5,Zw,Ub,Zz0]
 ·have p:=Yb h3 (by omega) (t.cols.length:Int);have Z:=ZD L (a+1+1) (t.cols.length:Int) (by omega) (by omega);obtain⟨j,hj⟩:∃k:Nat,ZS L (a+1+1) (t.cols.length:Int)=(k:Int):=⟨(ZS L (a+1+1) (t.cols.length:Int)).toNat,by omega⟩;rw[hj]at p Z;have q:=h3.step (a+1+1+1) (B-3) (by omega) (by omega);have J:=WU q (by omega) (-1) 5 (by omega) (by omega) (by omega);obtain⟨e,M⟩:=Zu (l:=t.cols) (i:=j) (by omega);have P:=Ym M;have r:(t.cols.map Zh)[j]?=some (Zh e):=by simp[M]
  generalize Jq L (a+1+1+1) (-1) 5=kd at *;have cs:=Zez t.cols j {e with kd:=kd};have lv:=lv t.nm (t.cols.set j {e with kd:=kd}) t.key t.fgn t.idx;simp only[Vq]at lv;have me:=Ve M;simp only[Zh]at P r cs;refine⟨x.set i ⟨t.nm,t.cols.set j {e with kd:=kd},t.key,t.fgn,t.idx⟩,a+1+1+1+1,?_,by omega,by omega,O _ ⟨g.nm,by rw[Vq];exact g.c1,by rw[Vq];exact g.cl,fun c W=>by
   rcases VL W with C|C
   ·exact g.cn c C
   rw[C];exact g.cn e me,g.key,g.fl,g.fg,g.il,g.ix⟩⟩
  rw[W1];simp only[go_sem,simprocAttr,f6,z,D,y,E,p,J,P,r,cs,A,o,G,ls,lv,F,Vk,Vd,Z5,Zw,Ub]
 ·have p:=Yb h3 (by omega) (t.cols.length:Int);have Z:=ZD L (a+1+1) (t.cols.length:Int) (by omega) (by omega);obtain⟨j,hj⟩:∃k:Nat,ZS L (a+1+1) (t.cols.length:Int)=(k:Int):=⟨(ZS L (a+1+1) (t.cols.length:Int)).toNat,by omega⟩;rw[hj]at p Z;have q:=h3.step (a+1+1+1) (B-3) (by omega) (by omega);obtain⟨e,M⟩:=Zu (l:=t.cols) (i:=j) (by omega);have P:=Ym M;have r:(t.cols.map Zh)[j]?=some (Zh e):=by simp[M]
  have me:=Ve M;have J:=Yb q (by omega) 4;obtain⟨s,hs,H⟩:=ZdZ (l:=[[],[105,100],[99,97],[65]]) (ZD L (a+1+1+1) 4 (by omega) (by omega));have U:s.length≤5:=(by decide:∀x∈([[],[105,100],[99,97],[65]]:List (List UInt8)),x.length≤5) s hs;simp only[List.map]at H;have cs:=Zez t.cols j {e with nm:=s};have lv:=lv t.nm (t.cols.set j {e with nm:=s}) t.key t.fgn t.idx;simp only[Vq]at lv;simp only[Zh]at P r cs;refine⟨x.set i ⟨t.nm,t.cols.set j {e with nm:=s},t.key,t.fgn,t.idx⟩,a+1+1+1+1,?_,by omega,by omega,O _ ⟨g.nm,by rw[Vq];exact g.c1,by rw[Vq];exact g.cl,fun c W=>by
   rcases VL W with C|C
   ·exact g.cn c C
   rw[C];show s.length≤100;omega,g.key,g.fl,g.fg,g.il,g.ix⟩⟩
  rw[W1];simp only[go_sem,simprocAttr,f6,z,D,y,E,p,J,H,P,r,cs,A,o,G,ls,lv,F,Vk,Vd,Z5,Zw,Ub]
 ·obtain⟨e,M⟩:=Zu (l:=t.cols) (i:=0) (by omega);have P:=Ym M;have r:(t.cols.map Zh)[0]?=some (Zh e):=by simp[M]
  have me:=Ve M;have cs:=Zez t.cols 0 {e with nl:=true};have lv:=lv t.nm (t.cols.set 0 {e with nl:=true}) t.key t.fgn t.idx;simp only[Vq]at lv;have z0:at? (t.cols.map Zh) 0=some (Zh e):=P;simp only[Zh]at z0 r cs;refine⟨x.set i ⟨t.nm,t.cols.set 0 {e with nl:=true},t.key,t.fgn,t.idx⟩,a+1+1,?_,by omega,by omega,O _ ⟨g.nm,by rw[Vq];exact g.c1,by rw[Vq];exact g.cl,fun c W=>by
   rcases VL W with C|C
   ·exact g.cn c C
   rw[C];exact g.cn e me,g.key,g.fl,g.fg,g.il,g.ix⟩⟩
  rw[W1];simp only[go_sem,simprocAttr,f6,z,D,y,E,z0,r,cs,A,o,G,ls,lv,F,Vk,Vd,Z5,Zw,Ub]
 ·have c1:t.idx=[]∨1≤t.idx.length:=by
   cases t.idx with
   |nil=>exact .inl rfl
   |cons a b=>exact .inr (by simp)
  have a2:=st.il;have T:((t.idx.length+1)*49≤Zp)=True:=V5 (by unfold Zp;omega);have a3:(49≤Zp)=True:=V5 (by unfold Zp;omega);have p:=Yb h3 (by omega) 3;obtain⟨s,hs,H⟩:=ZdZ (l:=[[105,97],[122],[65]]) (ZD L (a+1+1) 3 (by omega) (by omega));have U:s.length≤5:=(by decide:∀x∈([[105,97],[122],[65]]:List (List UInt8)),x.length≤5) s hs;simp only[List.map]at H;have q:=h3.step (a+1+1+1) (B-3) (by omega) (by omega);have J:=Yb q (by omega) 4;have b3:=ZD L (a+1+1+1) 4 (by omega) (by omega);generalize ZS L (a+1+1+1) 4=d at *;generalize ZS L (a+1+1) 3=d0 at *;have d4:d=0∨d=1∨d=2∨d=3:=by omega
  have key:∀X:List (List UInt8),X.length≤2→SzX (x.set i ⟨t.nm,t.cols,t.key,t.fgn,t.idx++[⟨s,X,false⟩]⟩) (m+1):=fun X hn=>O _ ⟨g.nm,g.c1,g.cl,g.cn,g.key,g.fl,g.fg,by show(t.idx++_).length≤_;simp;omega,fun f hf=>by
   rcases Vg.1 hf with h|h
   ·exact g.ix f h
   rw[VH]at h;subst h;exact⟨by show s.length≤100;omega,hn⟩⟩
  rcases d4 with rfl|rfl|rfl|rfl
  ·refine⟨x.set i ⟨t.nm,t.cols,t.key,t.fgn,t.idx++[⟨s,[],false⟩]⟩,a+1+1+1+1,?_,by omega,by omega,key _ (by simp)⟩;have lv:=fun h q=>Zce x i w t.nm t.cols t.key t.fgn (t.idx++[⟨s,[],false⟩]) h q (t.idx.length+1) (by simp);have u:=Ze5 t.idx ⟨s,[],false⟩;simp only[Yq,SLs,VO]at u;have Y:=Zau t.idx (by omega);rw[W1];simp only[go_sem,simprocAttr,f6,z,D,y,E,p,J,H,T,Y,u,A,o,G,N,ls,lv,F,Vk,Vd,Z5,Zw,YV,Ub,Zs6]
  ·refine⟨x.set i ⟨t.nm,t.cols,t.key,t.fgn,t.idx++[⟨s,[[105,100]],false⟩]⟩,a+1+1+1+1,?_,by omega,by omega,key _ (by simp)⟩;have lv:=fun h q=>Zce x i w t.nm t.cols t.key t.fgn (t.idx++[⟨s,[[105,100]],false⟩]) h q (t.idx.length+1) (by simp);have u:=Ze5 t.idx ⟨s,[[105,100]],false⟩;simp only[Yq,SLs,Vz,VO]at u;have Y:=Zau t.idx (by omega);rw[W1];simp only[go_sem,simprocAttr,f6,z,D,y,E,p,J,H,T,Y,u,A,o,G,N,ls,lv,F,Vk,Vd,Z5,Zw,YV,Ub,Zu4]
  ·refine⟨x.set i ⟨t.nm,t.cols,t.key,t.fgn,t.idx++[⟨s,[[122,122]],false⟩]⟩,a+1+1+1+1,?_,by omega,by omega,key _ (by simp)⟩;have lv:=fun h q=>Zce x i w t.nm t.cols t.key t.fgn (t.idx++[⟨s,[[122,122]],false⟩]) h q (t.idx.length+1) (by simp);have u:=Ze5 t.idx ⟨s,[[122,122]],false⟩;simp only[Yq,SLs,Vz,VO]at u;have Y:=Zau t.idx (by omega);rw[W1];simp only[go_sem,simprocAttr,f6,z,D,y,E,p,J,H,T,Y,u,A,o,G,N,ls,lv,F,Vk,Vd,Z5,Zw,YV,Ub,Zta]
  refine⟨x.set i ⟨t.nm,t.cols,t.key,t.fgn,t.idx++[⟨s,[[105,100],[105,100]],false⟩]⟩,a+1+1+1+1,?_,by omega,by omega,key _ (by simp)⟩;have lv:=fun h q=>Zce x i w t.nm t.cols t.key t.fgn (t.idx++[⟨s,[[105,100],[105,100]],false⟩]) h q (t.idx.length+1) (by simp);have u:=Ze5 t.idx ⟨s,[[105,100],[105,100]],false⟩;simp only[Yq,SLs,Vz,VO]at u;have Y:=Zau t.idx (by omega);rw[W1];simp only[go_sem,simprocAttr,f6,z,D,y,E,p,J,H,T,Y,u,A,o,G,N,ls,lv,F,Vk,Vd,Z5,Zw,YV,Ub,Zz0]
 ·have c1:t.fgn=[]∨1≤t.fgn.length:=by
   cases t.fgn with
   |nil=>exact .inl rfl
   |cons a b=>exact .inr (by simp)
  have a2:=st.fl;have T:((t.fgn.length+1)*57≤Zp)=True:=V5 (by unfold Zp;omega);have a3:(57≤Zp)=True:=V5 (by unfold Zp;omega);have p:=Yb h3 (by omega) 2;obtain⟨s,hs,H⟩:=ZdZ (l:=[[102,97],[122]]) (ZD L (a+1+1) 2 (by omega) (by omega));have U:s.length≤5:=(by decide:∀x∈([[102,97],[122]]:List (List UInt8)),x.length≤5) s hs;simp only[List.map]at H;have q:=h3.step (a+1+1+1) (B-3) (by omega) (by omega);have J:=Yb q (by omega) 2;obtain⟨Q,a7,S⟩:=ZdZ (l:=[[116,97],[122,122]]) (ZD L (a+1+1+1) 2 (by omega) (by omega));simp only[List.map]at S;have h5:=q.step (a+1+1+1+1) (B-4) (by omega) (by omega);have x4:=Yb h5 (by omega) 3;have b4:=ZD L (a+1+1+1+1) 3 (by omega) (by omega);generalize ZS L (a+1+1+1+1) 3=d at *;generalize ZS L (a+1+1+1) 2=d1 at *;generalize ZS L (a+1+1) 2=d0 at *;have d4:d=0∨d=1∨d=2:=by omega
  have key:∀X:List (List UInt8),X.length≤2→SzX (x.set i ⟨t.nm,t.cols,t.key,t.fgn++[⟨s,X,Q⟩],t.idx⟩) (m+1):=fun X hn=>O _ ⟨g.nm,g.c1,g.cl,g.cn,g.key,by show(t.fgn++_).length≤_;simp;omega,fun f hf=>by
   rcases Vg.1 hf with h|h
   ·exact g.fg f h
   rw[VH]at h;subst h;exact⟨by show s.length≤100;omega,hn⟩,g.il,g.ix⟩
  rcases d4 with rfl|rfl|rfl
  ·refine⟨x.set i ⟨t.nm,t.cols,t.key,t.fgn++[⟨s,[],Q⟩],t.idx⟩,a+1+1+1+1+1,?_,by omega,by omega,key _ (by simp)⟩;have lv:=fun h q=>Zd9 x i w t.nm t.cols t.key (t.fgn++[⟨s,[],Q⟩]) t.idx h q (t.fgn.length+1) (by simp);have u:=ZfF t.fgn ⟨s,[],Q⟩;simp only[Z7,SLs,VO]at u;have cF:=Zan t.fgn (by omega);rw[W1];simp only[go_sem,simprocAttr,f6,z,D,y,E,p,J,x4,H,S,T,cF,u,A,o,G,N,ls,lv,F,Vk,Vd,Z5,Zw,Xy,Ub,Zs6]
  ·refine⟨x.set i ⟨t.nm,t.cols,t.key,t.fgn++[⟨s,[[105,100]],Q⟩],t.idx⟩,a+1+1+1+1+1,?_,by omega,by omega,key _ (by simp)⟩;have lv:=fun h q=>Zd9 x i w t.nm t.cols t.key (t.fgn++[⟨s,[[105,100]],Q⟩]) t.idx h q (t.fgn.length+1) (by simp);have u:=ZfF t.fgn ⟨s,[[105,100]],Q⟩;simp only[Z7,SLs,Vz,VO]at u;have cF:=Zan t.fgn (by omega);rw[W1];simp only[go_sem,simprocAttr,f6,z,D,y,E,p,J,x4,H,S,T,cF,u,A,o,G,N,ls,lv,F,Vk,Vd,Z5,Zw,Xy,Ub,Zu4]
  refine⟨x.set i ⟨t.nm,t.cols,t.key,t.fgn++[⟨s,[[99,97]],Q⟩],t.idx⟩,a+1+1+1+1+1,?_,by omega,by omega,key _ (by simp)⟩;have lv:=fun h q=>Zd9 x i w t.nm t.cols t.key (t.fgn++[⟨s,[[99,97]],Q⟩]) t.idx h q (t.fgn.length+1) (by simp);have u:=ZfF t.fgn ⟨s,[[99,97]],Q⟩;simp only[Z7,SLs,Vz,VO]at u;have cF:=Zan t.fgn (by omega);rw[W1];simp only[go_sem,simprocAttr,f6,z,D,y,E,p,J,x4,H,S,T,cF,u,A,o,G,N,ls,lv,F,Vk,Vd,Z5,Zw,Xy,Ub,Zta]
 have p:=Yb h3 (by omega) (t.cols.length:Int);have Z:=ZD L (a+1+1) (t.cols.length:Int) (by omega) (by omega);obtain⟨j,hj⟩:∃k:Nat,ZS L (a+1+1) (t.cols.length:Int)=(k:Int):=⟨(ZS L (a+1+1) (t.cols.length:Int)).toNat,by omega⟩;rw[hj]at p Z;have q:=h3.step (a+1+1+1) (B-3) (by omega) (by omega);obtain⟨e,M⟩:=Zu (l:=t.cols) (i:=j) (by omega);have P:=Ym M;have r:(t.cols.map Zh)[j]?=some (Zh e):=by simp[M]
 have me:=Ve M;obtain⟨v,a1,J,q1,q2,_⟩:=Zz2 q (by omega);have cs:=Zez t.cols j {e with df:=v};have lv:=lv t.nm (t.cols.set j {e with df:=v}) t.key t.fgn t.idx;simp only[Vq]at lv;simp only[Zh]at P r cs;simp only[enc]at J;refine⟨x.set i ⟨t.nm,t.cols.set j {e with df:=v},t.key,t.fgn,t.idx⟩,a1,?_,by omega,by omega,O _ ⟨g.nm,by rw[Vq];exact g.c1,by rw[Vq];exact g.cl,fun c W=>by
  rcases VL W with C|C
  ·exact g.cn c C
  rw[C];exact g.cn e me,g.key,g.fl,g.fg,g.il,g.ix⟩⟩
 rw[W1];simp only[go_sem,simprocAttr,f6,z,D,y,E,p,J,P,r,cs,A,o,G,ls,lv,F,Vk,Vd,Z5,Zw,Ub]
end
def Z9(v:Val):Bool:=Jv v&&(decide (v.s.length≤100)&&WC v)
theorem Zld(k n:Int)(s:List UInt8):R K (.call 335 [V k n s] [])=some (.bool (Z9 ⟨k,n,s⟩),[]):=by
 by_cases hs:s.length≤100
 ·have b:(s.length:Int)≤100:=by omega
  rw[ZnM];simp only[go_sem,simprocAttr,f335,Zcu,Zhb k n s hs,b]
  repeat' ((first|apply ZG|apply ZK|apply ZT)<;>intro c<;>simp only[c,go_sem,simprocAttr,Zcu,Zhb k n s hs,b])
  all_goals simp_all[Z9]<;>omega
 have b:¬(s.length:Int)≤100:=by omega
 rw[ZnM];simp only[go_sem,simprocAttr,f335,Zcu,b]
 repeat' ((first|apply ZG|apply ZK|apply ZT)<;>intro c<;>simp only[c,go_sem,simprocAttr,Zcu,b])
 all_goals simp_all[Z9]<;>omega
def Zo(v:Val):Val:=if Z9 v=true then v else null
theorem Zhk(k n:Int)(s:List UInt8):R K (.call 277 [V k n s] [])=some (enc (Zo ⟨k,n,s⟩),[]):=by
 rw[Ztx];simp only[go_sem,simprocAttr,f277,Zld]
 repeat' ((first|apply ZG|apply ZK|apply ZT)<;>intro b<;>simp only[b,go_sem,simprocAttr,Zld])
 all_goals simp_all[Zo,null]
def X7(b:Bool):Val:=⟨1,if b=true then 1 else 0,[]⟩
theorem Zf9(b:Bool):R K (.call 298 [.bool b] [])=some (enc (X7 b),[]):=by
 rw[Zw1];simp only[go_sem,simprocAttr,f298]
 repeat' ((first|apply ZG|apply ZK|apply ZT)<;>intro c<;>simp only[c,go_sem,simprocAttr])
 all_goals simp_all[X7]
def Xf(k n:Int):Val:=Zo ⟨k,n,[]⟩
theorem Zoe(k n:Int):R K (.call 299 [.int .i64 k,.int .i64 n] [])=some (enc (Xf k n),[]):=by
 rw[ZvH];simp only[go_sem,simprocAttr,f299,Zhk]
 all_goals simp_all[Xf]
def JE(s:List UInt8):Val:=Zo ⟨3,0,s⟩
theorem ZBg(s:List UInt8):R K (.call 295 [.str s] [])=some (enc (JE s),[]):=by
 rw[ZwN];simp only[go_sem,simprocAttr,f295,Zhk]
 all_goals simp_all[JE]
theorem Zsr(v:Val)(h:(Zo v).k=3):(Zo v)=v∧v.s.length≤100∧ok7 v.s=true:=by
 unfold Zo at h ⊢;split at h
 ·rename_i b;have c:v.k=3:=by simpa[b]using h
  simp only[Z9,VA,VK]at b;obtain⟨d,h2,h3⟩:=b;refine⟨by simp[Z9,d,h2,h3],h2,?_⟩;simpa[WC,c]using h3
 simp[null]at h
def JJ(v:Val):Int :=
 if !(ZY v.k 0 4)||(v.k != 3&&v.s != [])||((v.k==3||v.k==0)&&v.n != 0)then 3
 else if 100<v.s.length then 2
 else if !(ok7 v.s)||(v.k==1&&!(ZY v.n 0 1))||(v.k==2&&!(ZY v.n (-999999999999999) 999999999999999))||(v.k==4&&!(ZY v.n 0 253402300799))then 1
 else 0
theorem Zgt(v:Val):(JJ v=0)↔Z9 v=true:=by
 obtain⟨k,n,s⟩:=v;by_cases d:k=0
 ·subst d;by_cases e:n=0<;>by_cases h2:s=[]<;>simp[JJ,Z9,Jv,WC,ZY,ok7,e,h2]
 by_cases h3:k=3
 ·subst h3;by_cases e:n=0<;>by_cases h2:s.length≤100<;>simp[JJ,Z9,Jv,WC,ZY,e,h2,Nat.not_lt.2,Nat.not_le.1]<;>(try omega)<;>(cases ok7 s<;>simp<;>omega)
 by_cases b:ZY k 0 4=true
 ·have c:ZY k 1 4=true:=by simp[ZY]at b ⊢;omega
  by_cases h2:s=[]
  ·subst h2;by_cases f:k=1
   ·subst f;simp[JJ,Z9,Jv,WC,b,c,ok7]
   by_cases g:k=2
   ·subst g;simp[JJ,Z9,Jv,WC,b,c,ok7]
   by_cases h:k=4
   ·subst h;simp[JJ,Z9,Jv,WC,b,c,ok7]
   simp[ZY]at b;omega
  simp[JJ,Z9,Jv,d,h3,h2]
 have c:ZY k 1 4=false:=by simp[ZY]at b ⊢;omega
 simp[JJ,Z9,Jv,d,h3,b,c]
theorem ZhE(n a b:Int):ZY n a b=true↔a≤n∧n≤b:=by simp[ZY]
theorem Ze6(v:Val):let p:=Zo v;(0≤p.k∧p.k≤4)∧(-999999999999999≤p.n∧p.n≤999999999999999)∧p.s.length≤100∧(p.k≠3→p.s=[])∧(p.k=1→p.n=0∨p.n=1)∧(p.k=0→p.n=0)∧(p.k=3→p.n=0)∧ok7 p.s=true∧(p.k=4→0≤p.n∧p.n≤253402300799):=by
 intro p;by_cases c:Z9 v=true
 ·have e:p=v:=by simp[p,Zo,c]
  rw[e];have h:=(Zgt v).2 c;unfold JJ at h;simp only[Z9,VA,VK]at c;obtain⟨b,h2,h3⟩:=c;unfold WC at h3;unfold Jv at b;by_cases g:v.k=0
  ·simp[g]at b h3;refine⟨by omega,by omega,by simp[b.2],by simp[b.2],by omega,by omega,by omega,by simpa using h3,by omega⟩
  by_cases f:v.k=3
  ·simp[f]at b h3;exact⟨by omega,by omega,h2,by simp[f],by omega,by omega,by omega,h3,by omega⟩
  simp[g,f]at b;obtain⟨o,q⟩:=b;rw[ZhE]at o;have d:v.k=1∨v.k=2∨v.k=4:=by omega
  rw[q]at h3 ⊢;rcases d with d|d|d<;>simp[d,ZhE]at h3<;>(refine⟨by omega,by omega,by simp,by simp,by omega,by omega,by omega,rfl,by omega⟩)
 have e:p=null:=by simp[p,Zo,c]
 rw[e];simp[null,ok7]
theorem Zsc(h:ok7 s=true):ZkO s=true:=by simp only[ZkO,ok7,Um,VA,VK]at h ⊢;intro x b;have:=(h x b).2;omega
theorem ZlI(v:Val)(h:(Zo v).k=3):(Zo v).s.length≤100∧ZkO (Zo v).s=true:=by obtain⟨b,h2,h3⟩:=Zsr v h;rw[b];exact⟨h2,Zsc h3⟩
theorem Zzd(x:α)(l:List α):at? (x::l) (0:Int)=some x:=rfl
theorem ZBx(c:UInt8)(k:Nat)(b:k<256):(((c.toNat:Nat):Int)==(k:Int))=(c==UInt8.ofNat k):=by
 rw[UE];simp only[Up];constructor
 ·intro h;refine UInt8.toNat.inj ?_;rw[SW];omega
 rintro rfl;rw[SW];omega
def ZdD(y:Int):Bool:=(y%4==0&&!(y%100==0))||y%400==0
def mdS(y m:Int):Int:=if m=2 then(if ZdD y=true then 29 else 28)else if m=4∨m=6∨m=9∨m=11 then 30 else 31
def ydS(y:Int):Int:=365*(y-1970)+(y-1)/4-(y-1)/100+(y-1)/400-477
def Zgl(y:Int):Int:=if ZdD y=true then 366 else 365
theorem Zor(y:Int):ZdD y=true↔(y%4=0∧y%100≠0)∨y%400=0:=by simp[ZdD]
theorem Qj(y:Int):ydS (y+1)=ydS y+Zgl y:=by
 unfold ydS Zgl;by_cases h:ZdD y=true
 ·rw[Vr h];rw[Zor]at h;omega
 rw[Vm h];rw[Zor]at h;omega
theorem Jg(y:Int):365≤Zgl y∧Zgl y≤366:=by unfold Zgl;split<;>omega
theorem Q6(y m:Int):28≤mdS y m∧mdS y m≤31:=by unfold mdS;repeat' split<;>omega
theorem ZgB(y:Int):∀k:Nat,ydS y+k*365≤ydS (y+k)
 |0=>by simp
 |k+1=>by
  have b:=ZgB y k;have e:=Qj (y+k);have l:=Jg (y+k);have:y+((k+1:Nat):Int)=y+k+1:=by omega
  rw[this];omega
theorem J5{y z:Int}(h:y≤z):ydS y+(z-y)*365≤ydS z:=by
 obtain⟨k,rfl⟩:∃k:Nat,z=y+k:=⟨(z-y).toNat,by omega⟩;have:=ZgB y k;have e:y+(k:Int)-y=k:=by omega
 rw[e];exact this
theorem yd0:ydS 1970=0:=by decide
end Go.Ab
