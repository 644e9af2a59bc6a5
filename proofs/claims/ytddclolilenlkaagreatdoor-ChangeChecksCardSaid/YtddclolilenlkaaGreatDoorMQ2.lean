/- What is proved: contracts of the program's and the reference's functions in the evaluator, and plain laws on them. Conditions: as each states. -/
import Derived.Test.YtddclolilenlkaaGreatDoorMQ1
set_option linter.unusedSimpArgs false
set_option linter.unusedSectionVars false
set_option linter.unusedVariables false
set_option maxRecDepth 100000
namespace Go.Ab
open Go Go.Proofs Go.Proofs.Tryz
variable{d kind n y:Int}{v x:Val}{s:List UInt8}{i j k l lt p:Nat}{α:Type}{a:AV}{f:List AV→Option (List AV)}{h:Za}{row:List AV}{fg:List Fgn}{col:Col}
theorem ZkR:∀d:Nat,∃z:Int,1970≤z∧ydS z≤d∧(d:Int)<ydS (z+1)
 |0=>⟨1970,by omega,by rw[yd0];simp,by rw[Qj,yd0];have:=Jg 1970;omega⟩
 |d+1=>by
  obtain⟨z,b,h2,h3⟩:=ZkR d;by_cases h:((d+1:Nat):Int)<ydS (z+1)
  ·exact⟨z,b,by omega,h⟩
  refine⟨z+1,by omega,by omega,?_⟩;have:=Qj (z+1);have:=Jg (z+1);omega
noncomputable def Yu(d:Int):Int:=Classical.choose (ZkR d.toNat)
theorem ZbA(h:0≤d):1970≤Yu d∧ydS (Yu d)≤d∧d<ydS (Yu d+1):=by
 have b:=Classical.choose_spec (ZkR d.toNat);obtain⟨e,h2,h3⟩:=b;unfold Yu;refine⟨e,?_,?_⟩
 ·omega
 omega
theorem Zzk(h:0≤d)(e:d<ydS (y+1)):Yu d≤y:=by
 rcases Int.lt_or_le y (Yu d)with b|b
 ·have:=(ZbA h).2.1;have:=J5 (y:=y+1) (z:=Yu d) (by omega);omega
 exact b
theorem Zye(h:0≤d)(e:ydS y≤d):y≤Yu d:=by
 rcases Int.lt_or_le (Yu d) y with b|b
 ·have:=(ZbA h).2.2;have:=J5 (y:=Yu d+1) (z:=y) (by omega);omega
 exact b
theorem Zuf:ydS (9999+1)=2932897:=by decide
theorem Zua(h:0≤d)(b:d≤2932896):Yu d≤9999:=Zzk h (by rw[Zuf];omega)
theorem ZzR:∀k:Nat,ydS (1970+k)≤k*366
 |0=>by rw[show(1970:Int)+((0:Nat):Int)=1970 from rfl,yd0];simp
 |k+1=>by
  have b:=ZzR k;have e:=Qj (1970+k);have l:=Jg (1970+k);have:(1970:Int)+((k+1:Nat):Int)=1970+k+1:=by omega
  rw[this];omega
theorem ZuI(h:0≤d):1970+d/366≤Yu d:=by
 refine Zye h ?_;have:=ZzR (d/366).toNat;have e:(((d/366).toNat:Nat):Int)=d/366:=by omega
 rw[e]at this;omega
def YW:Nat→Int→Int→Int→Int×Int
 |0,_,m,r=>(m,r)
 |f+1,y,m,r=>if mdS y m≤r then YW f y (m+1) (r-mdS y m)else(m,r)
def Zci:Nat→Int→Int→Int
 |0,_,_=>0
 |f+1,y,m=>mdS y m+Zci f y (m+1)
theorem Zjr(y:Int):Zci 12 y 1=Zgl y:=by cases h:ZdD y<;>simp[Zci,mdS,Zgl,h]
theorem ZeQ(y:Int):∀(f:Nat) (m r:Int),0≤r→r<Zci f y m→m≤(YW f y m r).1∧(YW f y m r).1<m+f∧0≤(YW f y m r).2∧(YW f y m r).2<mdS y (YW f y m r).1
 |0,m,r,e,b=>by simp only[Zci]at b;omega
 |f+1,m,r,e,b=>by
  simp only[Zci]at b;simp only[YW];split
  ·rename_i h;have o:=ZeQ y f (m+1) (r-mdS y m) (by omega) (by omega);refine⟨by omega,by omega,o.2.2.1,o.2.2.2⟩
  rename_i h;refine⟨Int.le_refl _,by simp only;omega,e,?_⟩;simp only;omega
def XH:Nat→Int→Int
 |0,_=>0
 |k+1,y=>XH k y+mdS y (k+1:Nat)
noncomputable def ymS(n:Int):Int×Int:=YW 12 (Yu (n/86400)) 1 (n/86400-ydS (Yu (n/86400)))
noncomputable def Zqv(n:Int):List Int:=[Yu (n/86400),(ymS n).1,(ymS n).2+1,n%86400/3600,n%86400%3600/60,n%86400%60]
theorem JG(o:0≤n)(q:n≤253402300799):1970≤Yu (n/86400)∧Yu (n/86400)≤9999∧1≤(ymS n).1∧(ymS n).1≤12∧0≤(ymS n).2∧(ymS n).2<mdS (Yu (n/86400)) (ymS n).1:=by
 have e:0≤n/86400:=by omega
 have hs:=ZbA e;have m:=Zua e (by omega);have r:=Qj (Yu (n/86400));have b:=ZeQ (Yu (n/86400)) 12 1 (n/86400-ydS (Yu (n/86400))) (by omega) (by rw[Zjr];omega);refine⟨hs.1,m,b.1,?_,b.2.2.1,b.2.2.2⟩;have:=b.2.1;unfold ymS;omega
abbrev ZkG:List UInt8:=[110,117,108,108]
abbrev JT:List UInt8:=[116,114,117,101]
abbrev JM:List UInt8:=[102,97,108,115,101]
def Zdz(n:Int)(d:Nat):List UInt8:=Lib.repeatL [48] (d-(Lib.itoa n).length)++Lib.itoa n
noncomputable def XJ(n:Int):List UInt8:=Zdz (Yu (n/86400)) 4++[45]++Zdz (ymS n).1 2++[45]++Zdz ((ymS n).2+1) 2++[84]++Zdz (n%86400/3600) 2++[58]++Zdz (n%86400%3600/60) 2++[58]++Zdz (n%86400%60) 2
noncomputable def YU(v:Val):List UInt8 :=
 if(Zo v).k=1 then Lib.formatBool ((Zo v).n==1)else if(Zo v).k=2 then Lib.itoa (Zo v).n else if(Zo v).k=3 then[39]++Lib.replaceAll (Zo v).s [39] [39,39]++[39]
 else if(Zo v).k=4 then[64]++XJ (Zo v).n else ZkG
def Yi(s:List UInt8):Option Int:=match Lib.atoiAll s with
 |.ok v=>some v
 |_=>none
def YX(y m d:Int):Int:=ydS y+XH (m-1).toNat y+d-1
def Xt(y m d h mi s:Int):Val:=if 1970≤y∧y≤9999∧1≤m∧m≤12∧1≤d∧d≤mdS y m∧0≤h∧h≤23∧0≤mi∧mi≤59∧0≤s∧s≤59 then Xf 4 (YX y m d*86400+h*3600+mi*60+s)else null
def Zs1(s:List UInt8):Option (Int×Int×Int×Int×Int×Int) :=
 match Yi (cut s 0 4),Yi (cut s 5 7),Yi (cut s 8 10),Yi (cut s 11 13),Yi (cut s 14 16),Yi (cut s 17 19)with
 |some a,some b,some c,some d,some e,some f=>some (a,b,c,d,e,f)
 |_,_,_,_,_,_=>none
noncomputable def Z3(s:List UInt8):Val :=
 if s.length=19 then match Zs1 s with
  |some (a,b,c,d,e,f)=>if(Xt a b c d e f).k=0∨XJ (Xt a b c d e f).n≠s then null else Xt a b c d e f
  |none=>null
 else null
noncomputable def Yg(s:List UInt8):Val :=
 if s=JT∨s=JM then X7 (decide (s=JT))
 else if 2≤s.length∧s[0]?=some 39∧s[s.length-1]?=some 39 then⟨3,0,Lib.replaceAll (cut s 1 (s.length-1)) [39,39] [39]⟩
 else if Lib.hasPrefix s [64]=true then Z3 (s.drop 1)
 else match Yi s with
  |some n=>⟨2,n,[]⟩
  |none=>null
theorem Yt(h:Z9 v=true):Zo v=v:=by unfold Zo;exact Vr h
theorem ZiY:Z9 null=true:=by decide
theorem Zb3(k n:Int):Xf k n=null∨(Xf k n=⟨k,n,[]⟩∧Z9 ⟨k,n,[]⟩=true):=by
 unfold Xf Zo;split
 ·rename_i h;exact .inr ⟨rfl,h⟩
 exact .inl rfl
theorem ZdX(a b c d e f:Int):Xt a b c d e f=null∨((Xt a b c d e f).k=4∧(Xt a b c d e f).s=[]∧Z9 (Xt a b c d e f)=true):=by
 unfold Xt;split
 ·rcases Zb3 4 (YX a b c*86400+d*3600+e*60+f)with h|⟨h,h2⟩
  ·exact .inl h
  rw[h];exact .inr ⟨rfl,rfl,h2⟩
 exact .inl rfl
theorem Zo4(c:UInt8)(r:List UInt8)(h:c≠64):Lib.hasPrefix (c::r) [64]=false:=by
 have:(64==c)=false:=by simpa using Ne.symm h
 simp[Lib.hasPrefix,List.isPrefixOf,this]
def Zej(a b:Int):Bool:=ZY a 1 4&&ZY b 1 4&&!((a==1&&b==4)||(a==4&&b==1))
noncomputable def Wf(a:Val):List UInt8:=if a.k=3 then a.s else if a.k=4 then XJ a.n else YU a
noncomputable def ZdA(s:List UInt8)(kind:Int):Val :=
 if Z9 (if kind=4 then Z3 s else Yg s)=true∧(if kind=4 then Z3 s else Yg s).k=kind∧Wf (if kind=4 then Z3 s else Yg s)=s then(if kind=4 then Z3 s else Yg s)else null
noncomputable def QU(a:Val)(kind:Int):Val :=
 if(Zo a).k=0∨Zej (Zo a).k kind=false then null
 else if(Zo a).k=kind then Zo a
 else if kind=3 then JE (Wf (Zo a))
 else if(Zo a).k=3 then ZdA (Zo a).s kind
 else if kind=1 then X7 (!((Zo a).n==0))
 else Xf kind (Zo a).n
theorem Zke:Yg JT=X7 true:=by unfold Yg;rw[Vr (by decide)];rfl
theorem ZiS:Yg JM=X7 false:=by unfold Yg;rw[Vr (by decide)];rfl
theorem WQ(v:Val):Z9 (Zo v)=true:=by
 unfold Zo;split
 ·assumption
 exact ZiY
theorem Zuw(y:Int)(h:0≤y):R K (.call 398 [.int .i64 y] [])=some (.bool (ZdD y),[]):=by
 rw[ZtG];simp only[go_sem,simprocAttr,f398,tm y _ h]
 repeat' ((first|apply ZG|apply ZK|apply ZT)<;>intro b<;>simp only[b,go_sem,simprocAttr,tm y _ h])
 all_goals simp_all[ZdD]
theorem ZAh(y m:Int)(h:0≤y):R K (.call 385 [.int .i64 y,.int .i64 m] [])=some (.int .i64 (mdS y m),[]):=by
 rw[Zv1];simp only[go_sem,simprocAttr,f385,Zuw y h]
 repeat' ((first|apply ZG|apply ZK|apply ZT)<;>intro b<;>simp only[b,go_sem,simprocAttr,Zuw y h])
 all_goals simp_all[mdS]
theorem ZyC(y:Int)(h:1≤y)(h2:y≤100000):R K (.call 384 [.int .i64 y] [])=some (.int .i64 (ydS y),[]):=by
 have e:Zx .i64 (y-1)=y-1:=Zq (by omega) (by omega);have m:Zx .i64 (y-1970)=y-1970:=Zq (by omega) (by omega);have o:Zx .i64 (365*(y-1970))=365*(y-1970):=Zq (by omega) (by omega);have q:Zx .i64 ((y-1).tdiv 4)=(y-1)/4:=by rw[td _ _ (by omega)];exact Zq (by omega) (by omega)
 have r:Zx .i64 (365*(y-1970)+(y-1)/4)=365*(y-1970)+(y-1)/4:=Zq (by omega) (by omega);have u:Zx .i64 ((y-1).tdiv 100)=(y-1)/100:=by rw[td _ _ (by omega)];exact Zq (by omega) (by omega)
 have w:Zx .i64 (365*(y-1970)+(y-1)/4-(y-1)/100)=365*(y-1970)+(y-1)/4-(y-1)/100:=Zq (by omega) (by omega);have A:Zx .i64 ((y-1).tdiv 400)=(y-1)/400:=by rw[td _ _ (by omega)];exact Zq (by omega) (by omega)
 have B:Zx .i64 (365*(y-1970)+(y-1)/4-(y-1)/100+(y-1)/400)=365*(y-1970)+(y-1)/4-(y-1)/100+(y-1)/400:=Zq (by omega) (by omega);have b:Zx .i64 (365*(y-1970)+(y-1)/4-(y-1)/100+(y-1)/400-477)=ydS y:=by unfold ydS;exact Zq (by omega) (by omega)
 rw[Zvp];simp only[go_sem,simprocAttr,f384,e,m,o,q,r,u,w,A,B,b]
theorem Zw8(h:y≤9999):ydS (y+1)≤2932897:=by have:=J5 (y:=y+1) (z:=9999+1) (by omega);rw[Zuf]at this;omega
theorem Zj6(d rest z:Int)(w:ydS z≤d)(h2:d<ydS (z+1))(A:z≤9999)(ks:List It):∀(m:Nat) (y:Int) (B:Code),YP f362 0 B→y+m=z→1970≤y →
  RL K (.run 362 0 (.code B::.lp B (some ([2,3,4,5],[])) 1::.blk 0 1::ks) [(2,.ptr 0 0),(3,I d),(4,I rest),(5,I y)] [.cells [I 0,I 0,I 0,I 0,I 0,I 0]]) =
  R K (.run 362 0 ks [(2,.ptr 0 0),(3,I d),(4,I rest),(5,I z)] [.cells [I 0,I 0,I 0,I 0,I 0,I 0]])
 |0,y,B,b,C,D=>by
  have e:y=z:=by omega
  subst e;have o:Zx .i64 (y+1)=y+1:=Zq (by omega) (by omega);have q:=ZyC (y+1) (by omega) (by omega);have r:decide (ydS (y+1)≤d)=false:=by simp;omega
  simp only[go_sem,simprocAttr,f362]at b;subst b;rw[Ze];simp only[go_sem,simprocAttr,o,q,r]
 |m+1,y,B,b,C,D=>by
  have u:=b;have o:Zx .i64 (y+1)=y+1:=Zq (by omega) (by omega);have q:=ZyC (y+1) (by omega) (by omega);have r:decide (ydS (y+1)≤d)=true:=by have:=J5 (y:=y+1) (z:=z) (by omega);simp;omega
  have E:=Zj6 d rest z w h2 A ks m (y+1) B u (by omega) (by omega);simp only[go_sem,simprocAttr,f362]at b;subst b;rw[Ze];simp only[go_sem,simprocAttr,o,q,r,E]
theorem ZqC(y m r:Int)(b:0≤r)(e:r≤400):Zx .i64 (r-mdS y m)=r-mdS y m:=by have:=Q6 y m;exact Zq (by omega) (by omega)
theorem ZkA(y rest:Int)(A:0≤y)(ks:List It):∀(f:Nat) (m r:Int) (B:Code),YP f362 2 B→0≤r→r<Zci f y m→r≤400→0≤m→m+f≤100 →
  RL K (.run 362 0 (.code B::.lp B (some ([2,3,4,5,6],[])) 1::.blk 2 1::ks) [(2,.ptr 0 0),(3,I r),(4,I rest),(5,I y),(6,I m)] [.cells [I 0,I 0,I 0,I 0,I 0,I 0]]) =
  R K (.run 362 0 ks [(2,.ptr 0 0),(3,I (YW f y m r).2),(4,I rest),(5,I y),(6,I (YW f y m r).1)] [.cells [I 0,I 0,I 0,I 0,I 0,I 0]])
 |0,m,r,B,b,C,e,_,_,_=>by simp only[Zci]at e;omega
 |f+1,m,r,B,b,C,e,o,E,J=>by
  have q:=b;simp only[Zci]at e;have D:=ZAh y m A;have F:=ZqC y m r C o;have G:Zx .i64 (m+1)=m+1:=Zq (by omega) (by omega);have L:=Q6 y m;by_cases h:mdS y m≤r
  ·have u:decide (mdS y m≤r)=true:=by simp[h]
   have H:=ZkA y rest A ks f (m+1) (r-mdS y m) B q (by omega) (by omega) (by omega) (by omega) (by omega);have w:YW (f+1) y m r=YW f y (m+1) (r-mdS y m):=by simp only[YW];rw[Vr h]
   rw[w];simp only[go_sem,simprocAttr,f362]at b;subst b;rw[Ze];simp only[go_sem,simprocAttr,D,F,G,u,H]
  have u:decide (mdS y m≤r)=false:=by simpa using h
  have w:YW (f+1) y m r=(m,r):=by simp only[YW];rw[Vm h]
  rw[w];simp only[go_sem,simprocAttr,f362]at b;subst b;rw[Ze];simp only[go_sem,simprocAttr,D,u]
theorem Ztu(n:Int)(b:0≤n)(r:n≤253402300799):R K (.call 362 [I n] [])=some (.agg ((Zqv n).map I),[]):=by
 have u:=JG b r;have hs:=ZbA (d:=n/86400) (by omega);have o:=ZuI (d:=n/86400) (by omega);have q:=Qj (Yu (n/86400));have w:=Jg (Yu (n/86400));have A:Zx .i64 (n.tdiv 86400)=n/86400:=by rw[td _ _ b];exact Zq (by omega) (by omega)
 have B:n.tmod 86400=n%86400:=tm _ _ b;have C:Zx .i64 ((n/86400).tdiv 366)=n/86400/366:=by rw[td _ _ (by omega)];exact Zq (by omega) (by omega)
 have D:Zx .i64 (1970+n/86400/366)=1970+n/86400/366:=Zq (by omega) (by omega);have E:=ZyC (Yu (n/86400)) (by omega) (by omega);have F:Zx .i64 (n/86400-ydS (Yu (n/86400)))=n/86400-ydS (Yu (n/86400)):=Zq (by omega) (by omega);have G:Zx .i64 ((ymS n).2+1)=(ymS n).2+1:=by have:=Q6 (Yu (n/86400)) (ymS n).1;exact Zq (by omega) (by omega)
 have H:Zx .i64 ((n%86400).tdiv 3600)=n%86400/3600:=by rw[td _ _ (by omega)];exact Zq (by omega) (by omega)
 have J:(n%86400).tmod 3600=n%86400%3600:=tm _ _ (by omega);have e:Zx .i64 ((n%86400%3600).tdiv 60)=n%86400%3600/60:=by rw[td _ _ (by omega)];exact Zq (by omega) (by omega)
 have m:(n%86400).tmod 60=n%86400%60:=tm _ _ (by omega);have L:YW 12 (Yu (n/86400)) 1 (n/86400-ydS (Yu (n/86400)))=ymS n:=rfl;rw[Zwj];simp only[go_sem,simprocAttr,f362,A,B,C,D];rw[Zj6 (n/86400) (n%86400) (Yu (n/86400)) hs.2.1 hs.2.2 u.2.1 _ (Yu (n/86400)-(1970+n/86400/366)).toNat _ _ ?_ (by omega) (by omega)]
 ·simp only[go_sem,simprocAttr,E,F];rw[ZkA (Yu (n/86400)) (n%86400) (by omega) _ 12 1 _ _ ?_ (by omega) (by rw[Zjr];omega) (by omega) (by omega) (by omega),L]
  ·simp only[go_sem,simprocAttr,G,H,J,e,m];rfl
  rfl
 rfl
theorem QH(y:Int):∀k:Nat,0≤XH k y∧XH k y≤31*k
 |0=>by simp[XH]
 |k+1=>by have b:=QH y k;have:=Q6 y ((k+1:Nat):Int);simp only[XH];omega
theorem Zws(y m h mi s base:Int)(w:0≤y)(e:1≤m)(o:m≤12)(A:0≤base∧base≤3000000)(ks:List It):∀(j k:Nat) (B:Code),YP f369 0 B→((k+j+1:Nat):Int)=m →
  RL K (.run 369 0 (.code B::.lp B (some ([0,1,3,4,5,12,13,14],[])) 1::.blk 0 1::ks) [(0,I y),(1,I m),(3,I h),(4,I mi),(5,I s),(12,.ptr 0 0),(13,I (base+XH k y)),(14,I ((k+1:Nat):Int))] [.cells [I 0,I 0,.str []]]) =
  R K (.run 369 0 ks [(3,I h),(4,I mi),(5,I s),(12,.ptr 0 0),(13,I (base+XH (m-1).toNat y))] [.cells [I 0,I 0,.str []]])
 |0,k,B,b,C=>by
  have q:decide (((k+1:Nat):Int)<m)=false:=by simp;omega
  have r:(m-1).toNat=k:=by omega
  rw[r];simp only[go_sem,simprocAttr,f369]at b;subst b;rw[Ze];simp only[go_sem,simprocAttr,q]
 |j+1,k,B,b,C=>by
  have u:=b;have q:decide (((k+1:Nat):Int)<m)=true:=by rw[VK];omega
  have r:=ZAh y ((k+1:Nat):Int) w;have D:Zx .i64 (((k+1:Nat):Int)+1)=((k+1+1:Nat):Int):=ZQ (i:=k+1) (n:=1000) (by omega) (by omega);have G:=QH y k;have H:=Q6 y ((k+1:Nat):Int);have E:Zx .i64 (base+XH k y+mdS y ((k+1:Nat):Int))=base+XH (k+1) y:=by rw[Zq (by omega) (by omega)];simp only[XH];omega
  have F:=Zws y m h mi s base w e o A ks j (k+1) B u (by omega);simp only[go_sem,simprocAttr,f369]at b;subst b;rw[Ze];simp only[go_sem,simprocAttr,q,r,D,E,F]
theorem WY(x a b:Int):ZY x a b=true↔a≤x∧x≤b:=by simp[ZY]
theorem XL{x a b:Int}(h:¬(a≤x∧x≤b)):ZY x a b=false:=by rw[Uk];exact fun e=>h ((WY x a b).1 e)
theorem Wp{m h mi s:Int}(H:¬(1970≤y∧y≤9999∧1≤m∧m≤12∧1≤d∧d≤mdS y m∧0≤h∧h≤23∧0≤mi∧mi≤59∧0≤s∧s≤59)):Xt y m d h mi s=null:=Vm H
theorem ZBv(y m d h mi s:Int):R K (.call 369 [I y,I m,I d,I h,I mi,I s] [])=some (enc (Xt y m d h mi s),[]):=by
 by_cases b:¬(1970≤y∧y≤9999)
 ·rw[Wp (by omega)];have w:=XL b;rw[ZaB];simp only[go_sem,simprocAttr,f369,Xe,w];rfl
 have b:=UK.1 b;have o:=(WY y 1970 9999).2 b;by_cases e:¬(1≤m∧m≤12)
 ·rw[Wp (by omega)];have w:=XL e;rw[ZaB];simp only[go_sem,simprocAttr,f369,Xe,o,w];rfl
 have e:=UK.1 e;have r:=(WY m 1 12).2 e;have u:=ZAh y m (by omega);by_cases q:¬(1≤d∧d≤mdS y m)
 ·rw[Wp (by omega)];have w:=XL q;rw[ZaB];simp only[go_sem,simprocAttr,f369,Xe,o,r,u,w];rfl
 have q:=UK.1 q;have A:=(WY d 1 (mdS y m)).2 q;by_cases hh:¬(0≤h∧h≤23)
 ·rw[Wp (by omega)];have w:=XL hh;rw[ZaB];simp only[go_sem,simprocAttr,f369,Xe,o,r,u,A,w];rfl
 have hh:=UK.1 hh;have D:=(WY h 0 23).2 hh;by_cases hi:¬(0≤mi∧mi≤59)
 ·rw[Wp (by omega)];have w:=XL hi;rw[ZaB];simp only[go_sem,simprocAttr,f369,Xe,o,r,u,A,D,w];rfl
 have hi:=UK.1 hi;have F:=(WY mi 0 59).2 hi;by_cases hs:¬(0≤s∧s≤59)
 ·rw[Wp (by omega)];have w:=XL hs;rw[ZaB];simp only[go_sem,simprocAttr,f369,Xe,o,r,u,A,D,F,w];rfl
 have hs:=UK.1 hs;have G:=(WY s 0 59).2 hs;have H:Xt y m d h mi s=Xf 4 (YX y m d*86400+h*3600+mi*60+s):=Vr ⟨b.1,b.2,e.1,e.2,q.1,q.2,hh.1,hh.2,hi.1,hi.2,hs.1,hs.2⟩;have J:=J5 (y:=1970) (z:=y) b.1;rw[yd0]at J;have Z:=Zw8 b.2;have en:=Qj y;have el:=Jg y;have em:=Q6 y m;have ea:=QH y (m-1).toNat;have L:=ZyC y (by omega) (by omega);have M:Zx .i64 (ydS y+d)=ydS y+d:=Zq (by omega) (by omega);have O:Zx .i64 (ydS y+d-1)=ydS y+d-1+XH 0 y:=by rw[Zq (by omega) (by omega)];simp[XH]
 have P:Zx .i64 ((ydS y+d-1+XH (m-1).toNat y)*86400)=YX y m d*86400:=by rw[Zq (by omega) (by omega)];unfold YX;omega
 have Q:Zx .i64 (h*3600)=h*3600:=Zq (by omega) (by omega);have S:Zx .i64 (YX y m d*86400+h*3600)=YX y m d*86400+h*3600:=Zq (by unfold YX;omega) (by unfold YX;omega);have U:Zx .i64 (mi*60)=mi*60:=Zq (by omega) (by omega);have W:Zx .i64 (YX y m d*86400+h*3600+mi*60)=YX y m d*86400+h*3600+mi*60:=Zq (by unfold YX;omega) (by unfold YX;omega);have E:Zx .i64 (YX y m d*86400+h*3600+mi*60+s)=YX y m d*86400+h*3600+mi*60+s:=Zq (by unfold YX;omega) (by unfold YX;omega);rw[H];rw[ZaB];simp only[go_sem,simprocAttr,f369,Xe,o,r,u,A,D,F,G,L,M,O];have C:=Zws y m h mi s (ydS y+d-1) (by omega) e.1 e.2 ⟨by omega,by omega⟩;have C:=fun ks B Y=>C ks (m-1).toNat 0 B Y (by omega);rw[show((0+1:Nat):Int)=1 from rfl]at C;rw[C _ _ ?_]
 ·simp only[go_sem,simprocAttr,P,Q,S,U,W,E,Zoe]
 rfl
theorem Zlm(n:Int)(b:-9223372036854775808≤n)(e:n≤9223372036854775807):R K (.call 329 [I n] [])=some (.str (Lib.itoa n),[]) :=
 Qn (by show Znm [I n]=_;simp only[Znm];rw[Vr (by simp[ZBk,b,e])])
theorem Zs9(b:Bool):R K (.call 328 [.bool b] [])=some (.str (Lib.formatBool b),[]):=Qn rfl
theorem Zdk(s o n:List UInt8)(hs:s.length<4294967281)(e:1≤o.length)(m:s.length+(s.length+1)*n.length≤140737488355328):R K (.call 315 [.str s,.str o,.str n] [])=some (.str (Lib.replaceAll s o n),[]) :=
 Qn (by show Jz [.str s,.str o,.str n]=_;simp only[Jz];have b:Lib.countB ⟨s.toArray⟩ ⟨o.toArray⟩≤s.length+1:=Lib.count_le s o;have h2:Lib.countB ⟨s.toArray⟩ ⟨o.toArray⟩*n.length≤(s.length+1)*n.length:=Pi b (Vw _);rw[Vr (by simp only[VA,VK];omega)])
theorem Ze9(o n:List UInt8):∀(k:Nat) (s:List UInt8),(Lib.replaceK o n k s).length≤s.length+k*n.length
 |0,s=>by simp[Lib.replaceK]
 |k+1,s=>by
  simp only[Lib.replaceK];split
  ·omega
  have b:=Ze9 o n k (s.drop ((Lib.index s o).toNat+o.length));simp only[Vu,Sv,SS]at b ⊢;rw[Un];omega
theorem ZgT(s o n:List UInt8):(Lib.replaceAll s o n).length≤s.length+(s.length+1)*n.length:=by
 unfold Lib.replaceAll Lib.replace;split
 ·omega
 have b:=Ze9 o n (Lib.replaceNum s o (-1)) s;have h2:Lib.replaceNum s o (-1)≤s.length+1:=by unfold Lib.replaceNum;rw[Vr (.inl (by omega))];exact Lib.count_le s o
 have h3:Lib.replaceNum s o (-1)*n.length≤(s.length+1)*n.length:=Pi h2 (Vw _);omega
theorem ZiU:∀(d u:Nat),u<10^(d+1)→Lib.nDigits u≤d+1
 |0,u,h=>by rw[Lib.nDigits_small (by simpa using h)];omega
 |d+1,u,h=>by
  by_cases b:u<10
  ·rw[Lib.nDigits_small b];omega
  rw[Lib.nDigits_big b];have:=ZiU d (u/10) (by rw[Nat.pow_succ]at h;omega);omega
theorem Zbs(d:Nat)(b:0≤n)(h:n<10^(d+1)):(Lib.itoa n).length≤d+1:=by obtain⟨u,rfl⟩:∃u:Nat,n=u:=⟨n.toNat,by omega⟩;rw[Lib.itoa_nonneg,Lib.decDigits_length];exact ZiU d u (by exact_mod_cast h)
theorem Zdp{d:Nat}(h:(Lib.itoa n).length≤d):(Zdz n d).length=d:=by unfold Zdz;rw[Vu,Lib.repeatL_length,Uo];omega
theorem Zbu(n:Int)(d:Nat)(r:0≤n)(u:n≤1000000)(w:d≤100):R K (.call 363 [I n,I (d:Int)] [])=some (.str (Zdz n d),[]):=by
 have A:=Lib.itoa_length_le n (by omega) (by omega);have b:=Zlm n (by omega) (by omega);have e:Zx .i64 ((d:Int)-((Lib.itoa n).length:Int))=(d:Int)-((Lib.itoa n).length:Int):=Zq (by omega) (by omega);have m:(if(d:Int)-((Lib.itoa n).length:Int)<0 then 0 else(d:Int)-((Lib.itoa n).length:Int))=((d-(Lib.itoa n).length:Nat):Int):=by split<;>omega
 have o:=ZeU [48] (d-(Lib.itoa n).length) (by omega) (by simp);have q:((Lib.repeatL [48] (d-(Lib.itoa n).length)).length+(Lib.itoa n).length≤Xa)=True:=by rw[Lib.repeatL_length];unfold Xa;simp;omega
 rw[Zt9];simp only[go_sem,simprocAttr,f363,b,e,m,o,q];rfl
theorem Zdj(k:Nat)(h:k≤1000):(k≤Xa)=True:=by unfold Xa;simp;omega
theorem Zgc(b:0≤n)(e:n≤253402300799):(Zdz (Yu (n/86400)) 4).length=4∧(Zdz (ymS n).1 2).length=2∧(Zdz ((ymS n).2+1) 2).length=2∧(Zdz (n%86400/3600) 2).length=2∧(Zdz (n%86400%3600/60) 2).length=2∧(Zdz (n%86400%60) 2).length=2:=by have m:=JG b e;have o:=Q6 (Yu (n/86400)) (ymS n).1;exact⟨Zdp (Zbs 3 (by omega) (by omega)),Zdp (Zbs 1 (by omega) (by omega)),Zdp (Zbs 1 (by omega) (by omega)),Zdp (Zbs 1 (by omega) (by omega)),Zdp (Zbs 1 (by omega) (by omega)),Zdp (Zbs 1 (by omega) (by omega))⟩
theorem Zkv(b:0≤n)(e:n≤253402300799):(XJ n).length=19:=by obtain⟨m,o,q,r,u,w⟩:=Zgc b e;unfold XJ;simp only[Vu,m,o,q,r,u,w,VC,VI]
theorem Zd0(n:Int)(b:0≤n)(e:n≤253402300799):R K (.call 330 [I n] [])=some (.str (XJ n),[]):=by have H:=JG b e;have J:=Q6 (Yu (n/86400)) (ymS n).1;have m:=Ztu n b e;simp only[Zqv,Vz,VO]at m;have o:=Zbu (Yu (n/86400)) 4 (by omega) (by omega) (by omega);have q:=Zbu (ymS n).1 2 (by omega) (by omega) (by omega);have r:=Zbu ((ymS n).2+1) 2 (by omega) (by omega) (by omega);have u:=Zbu (n%86400/3600) 2 (by omega) (by omega) (by omega);have w:=Zbu (n%86400%3600/60) 2 (by omega) (by omega) (by omega);have A:=Zbu (n%86400%60) 2 (by omega) (by omega) (by omega);simp only[PE]at o q r u w A;obtain⟨B,C,D,E,F,G⟩:=Zgc b e;rw[Zvh];simp only[go_sem,simprocAttr,f330,m,o,q,r,u,w,A,B,C,D,E,F,G,Zdj];rfl
theorem Zcd(h:(Zo v).k=4):0≤(Zo v).n∧(Zo v).n≤253402300799:=by have b:=WQ v;simp only[Z9,WC,VA,h]at b;have h2:=b.2.2;simp[ZY]at h2;exact h2
theorem ZgI(v:Val):(Zo v).k=0∨(Zo v).k=1∨(Zo v).k=2∨(Zo v).k=3∨(Zo v).k=4:=by
 have e:=WQ v;simp only[Z9,Jv,VA]at e;have b:=e.1;split at b
 ·rename_i h;exact .inl h
 split at b
 ·rename_i h;exact .inr (.inr (.inr (.inl h)))
 simp only[ZY,VA,VK]at b;omega
theorem Ja(a b:Nat)(h:a+b≤100000):(a+b≤Xa)=True:=by unfold Xa;simp;omega
theorem ZAM(k n:Int)(s:List UInt8):R K (.call 257 [V k n s] [])=some (.str (YU ⟨k,n,s⟩),[]):=by
 generalize q:(⟨k,n,s⟩:Val)=v;have m:=Zhk k n s;rw[q]at m;rcases ZgI v with h|h|h|h|h
 ·have e:YU v=ZkG:=by simp[YU,h]
  rw[e];rw[ZcC];simp only[go_sem,simprocAttr,f257,m,h]
 ·have e:YU v=Lib.formatBool ((Zo v).n==1):=by simp[YU,h]
  rw[e];have b:=Zs9 ((Zo v).n==1);rw[ZcC];simp only[go_sem,simprocAttr,f257,m,h,b]
 ·have e:YU v=Lib.itoa (Zo v).n:=by simp[YU,h]
  rw[e];have b:=Ze6 v;have hi:=Zlm (Zo v).n (by have:=b.2.1;omega) (by have:=b.2.1;omega);rw[ZcC];simp only[go_sem,simprocAttr,f257,m,h,hi]
 ·have e:YU v=[39]++Lib.replaceAll (Zo v).s [39] [39,39]++[39]:=by simp[YU,h]
  rw[e];have o:=(ZlI v h).1;have r:=Zdk (Zo v).s [39] [39,39] (by omega) (by simp) (by simp;omega);have u:=ZgT (Zo v).s [39] [39,39];simp only[VC,VI]at u;have w:=Ja 1 (Lib.replaceAll (Zo v).s [39] [39,39]).length (by omega);have C:=Ja (Lib.replaceAll (Zo v).s [39] [39,39]).length 1 (by omega);have A:=Ja ((Lib.replaceAll (Zo v).s [39] [39,39]).length+1) 1 (by omega);rw[ZcC];simp only[go_sem,simprocAttr,f257,m,h,r,w,A]
 have e:YU v=[64]++XJ (Zo v).n:=by simp[YU,h]
 rw[e];have b:=Zcd h;have B:=Zd0 (Zo v).n b.1 b.2;have o:=Zkv b.1 b.2;rw[ZcC];simp only[go_sem,simprocAttr,f257,m,h,B,o,Zdj]
theorem ZC(k:Nat)(h:k≤1000):(k≤Zp)=True:=by unfold Zp;simp;omega
theorem Xh(s:List UInt8)(v:Int)(e:s.length≤281474976710656)(h:Yi s=some v):R K (.call 314 [.str s] [])=some (.tup [I v,.nili],[]) :=
 Qn (by
  show ZeG [.str s]=_;simp only[ZeG];rw[Vr (by simpa using e)];unfold Yi at h;cases b:Lib.atoiAll s with
  |ok u=>rw[b]at h;simp only[Va]at h;rw[h]
  |_=>rw[b]at h;simp at h)
theorem Xj(s:List UInt8)(e:s.length≤281474976710656)(h:Yi s=none):∃z:Int,R K (.call 314 [.str s] [])=some (.tup [I z,.iface 352 .any],[]):=by
 unfold Yi at h;cases b:Lib.atoiAll s with
 |ok u=>rw[b]at h;simp at h
 |range =>
  refine⟨Lib.atoiSat s,Qn ?_⟩;show ZeG [.str s]=_;simp only[ZeG,b];rw[Vr (by simpa using e)]
 |_ =>
  refine⟨0,Qn ?_⟩;show ZeG [.str s]=_;simp only[ZeG,b];rw[Vr (by simpa using e)]
theorem JP(h:Yi (List.take 4 s)=none∨Yi (List.take 2 (List.drop 5 s))=none∨Yi (List.take 2 (List.drop 8 s))=none∨Yi (List.take 2 (List.drop 11 s))=none∨Yi (List.take 2 (List.drop 14 s))=none∨Yi (List.take 2 (List.drop 17 s))=none):Z3 s=null:=by
 have e:Zs1 s=none:=by unfold Zs1;simp only[cut,Ui,Nat.reduceSub,V4];rcases h with h|h|h|h|h|h<;>rw[h]<;>simp
 unfold Z3;split
 ·rw[e]
 rfl
theorem ZqS{a b c e f:Int}(m:Yi (List.take 4 s)=some a)(h2:Yi (List.take 2 (List.drop 5 s))=some b)(h3:Yi (List.take 2 (List.drop 8 s))=some c)(o:Yi (List.take 2 (List.drop 11 s))=some d)(q:Yi (List.take 2 (List.drop 14 s))=some e)(r:Yi (List.take 2 (List.drop 17 s))=some f):Zs1 s=some (a,b,c,d,e,f):=by unfold Zs1;simp only[cut,Ui,Nat.reduceSub,V4,m,h2,h3,o,q,r]
theorem J8(e:v.k=4)(b:Z9 v=true):0≤v.n∧v.n≤253402300799:=by
 have:=Zcd (v:=v) (by rw[Yt b];exact e)
 rwa [Yt b]at this
set_option maxHeartbeats 4000000 in
theorem Ziz(s:List UInt8):R K (.call 339 [.str s] [])=some (enc (Z3 s),[]):=by
 by_cases hs:s.length=19
 rotate_left
 ·have e:Z3 s=null:=Vm hs;have G:(((s.length:Nat):Int) != 19)=true:=by simpa using(fun h=>hs (by omega):¬((s.length:Nat):Int)=19)
  rw[e];rw[Qb];simp only[go_sem,simprocAttr,f339,G];rfl
 have U:((s.length:Nat):Int)=19:=by omega
 have lt:∀(k:Nat) (l:List UInt8),(List.take k l).length≤281474976710656∨281474976710656<k:=fun k l=>by
  rcases Sc 281474976710656 k with h|h
  ·exact .inr h
  exact .inl (Uu (List.length_take_le _ _) h)
 cases H:Yi (List.take 4 s)with
 |none =>
  have e:=JP (s:=s) (.inl H);obtain⟨z,a0⟩:=Xj (List.take 4 s) ((lt _ _).resolve_right (by omega)) H;rw[e];rw[Qb];simp only[go_sem,simprocAttr,f339,hs];rw[Ze];simp only[go_sem,simprocAttr,hs,a0];rfl
 |some b =>
  have a0:=Xh (List.take 4 s) b ((lt _ _).resolve_right (by omega)) H;cases J:Yi (List.take 2 (List.drop 5 s))with
  |none =>
   have e:=JP (s:=s) (.inr (.inl J));obtain⟨z,w⟩:=Xj (List.take 2 (List.drop 5 s)) ((lt _ _).resolve_right (by omega)) J;rw[e];rw[Qb];simp only[go_sem,simprocAttr,f339,hs];rw[Ze];simp only[go_sem,simprocAttr,hs,a0];rw[Ze];simp only[go_sem,simprocAttr,hs,w];rfl
  |some m =>
   have w:=Xh (List.take 2 (List.drop 5 s)) m ((lt _ _).resolve_right (by omega)) J;cases h2:Yi (List.take 2 (List.drop 8 s))with
   |none =>
    have e:=JP (s:=s) (.inr (.inr (.inl h2)));obtain⟨z,A⟩:=Xj (List.take 2 (List.drop 8 s)) ((lt _ _).resolve_right (by omega)) h2;rw[e];rw[Qb];simp only[go_sem,simprocAttr,f339,hs];rw[Ze];simp only[go_sem,simprocAttr,hs,a0];rw[Ze];simp only[go_sem,simprocAttr,hs,w];rw[Ze];simp only[go_sem,simprocAttr,hs,A];rfl
   |some o =>
    have A:=Xh (List.take 2 (List.drop 8 s)) o ((lt _ _).resolve_right (by omega)) h2;cases h3:Yi (List.take 2 (List.drop 11 s))with
    |none =>
     have e:=JP (s:=s) (.inr (.inr (.inr (.inl h3))));obtain⟨z,B⟩:=Xj (List.take 2 (List.drop 11 s)) ((lt _ _).resolve_right (by omega)) h3;rw[e];rw[Qb];simp only[go_sem,simprocAttr,f339,hs];rw[Ze];simp only[go_sem,simprocAttr,hs,a0];rw[Ze];simp only[go_sem,simprocAttr,hs,w];rw[Ze];simp only[go_sem,simprocAttr,hs,A];rw[Ze];simp only[go_sem,simprocAttr,hs,B];rfl
    |some q =>
     have B:=Xh (List.take 2 (List.drop 11 s)) q ((lt _ _).resolve_right (by omega)) h3;cases L:Yi (List.take 2 (List.drop 14 s))with
     |none =>
      have e:=JP (s:=s) (.inr (.inr (.inr (.inr (.inl L)))));obtain⟨z,D⟩:=Xj (List.take 2 (List.drop 14 s)) ((lt _ _).resolve_right (by omega)) L;rw[e];rw[Qb];simp only[go_sem,simprocAttr,f339,hs];rw[Ze];simp only[go_sem,simprocAttr,hs,a0];rw[Ze];simp only[go_sem,simprocAttr,hs,w];rw[Ze];simp only[go_sem,simprocAttr,hs,A];rw[Ze];simp only[go_sem,simprocAttr,hs,B];rw[Ze];simp only[go_sem,simprocAttr,hs,D];rfl
     |some r =>
      have D:=Xh (List.take 2 (List.drop 14 s)) r ((lt _ _).resolve_right (by omega)) L;cases M:Yi (List.take 2 (List.drop 17 s))with
      |none =>
       have e:=JP (s:=s) (.inr (.inr (.inr (.inr (.inr M)))));obtain⟨z,E⟩:=Xj (List.take 2 (List.drop 17 s)) ((lt _ _).resolve_right (by omega)) M;rw[e];rw[Qb];simp only[go_sem,simprocAttr,f339,hs];rw[Ze];simp only[go_sem,simprocAttr,hs,a0];rw[Ze];simp only[go_sem,simprocAttr,hs,w];rw[Ze];simp only[go_sem,simprocAttr,hs,A];rw[Ze];simp only[go_sem,simprocAttr,hs,B];rw[Ze];simp only[go_sem,simprocAttr,hs,D];rw[Ze];simp only[go_sem,simprocAttr,hs,E];rfl
      |some n5 =>
       have E:=Xh (List.take 2 (List.drop 17 s)) n5 ((lt _ _).resolve_right (by omega)) M;have F:=ZqS H J h2 h3 L M;have u:Z3 s=if(Xt b m o q r n5).k=0∨XJ (Xt b m o q r n5).n≠s then null else Xt b m o q r n5:=by unfold Z3;rw[Vr hs,F]
       have O:=ZBv b m o q r n5;rcases ZdX b m o q r n5 with W|⟨P,Y,Z⟩
       ·rw[W]at u O;have u:Z3 s=null:=by rw[u];rfl
        rw[u];have kn:null.k=0:=rfl;rw[Qb];simp only[go_sem,simprocAttr,f339,hs];rw[Ze];simp only[go_sem,simprocAttr,hs,a0];rw[Ze];simp only[go_sem,simprocAttr,hs,w];rw[Ze];simp only[go_sem,simprocAttr,hs,A];rw[Ze];simp only[go_sem,simprocAttr,hs,B];rw[Ze];simp only[go_sem,simprocAttr,hs,D];rw[Ze];simp only[go_sem,simprocAttr,hs,E];rw[Ze];simp only[go_sem,simprocAttr,O,kn]
        all_goals rfl
       have G:=J8 P Z;have S:=Zd0 (Xt b m o q r n5).n G.1 G.2;by_cases Q:XJ (Xt b m o q r n5).n=s
       ·have u:Z3 s=Xt b m o q r n5:=by rw[u,Vm (fun h=>h.elim (fun h=>by rw[P]at h;simp at h) (fun h=>h Q))]
        have C:(XJ (Xt b m o q r n5).n==s)=true:=by simp[Q]
        rw[u];rw[Qb];simp only[go_sem,simprocAttr,f339,hs];rw[Ze];simp only[go_sem,simprocAttr,hs,a0];rw[Ze];simp only[go_sem,simprocAttr,hs,w];rw[Ze];simp only[go_sem,simprocAttr,hs,A];rw[Ze];simp only[go_sem,simprocAttr,hs,B];rw[Ze];simp only[go_sem,simprocAttr,hs,D];rw[Ze];simp only[go_sem,simprocAttr,hs,E];rw[Ze];simp only[go_sem,simprocAttr,O,P,S,C]
       have u:Z3 s=null:=by rw[u,Vr (.inr Q)]
       have C:(XJ (Xt b m o q r n5).n==s)=false:=by simpa using Q
       rw[u];rw[Qb];simp only[go_sem,simprocAttr,f339,hs];rw[Ze];simp only[go_sem,simprocAttr,hs,a0];rw[Ze];simp only[go_sem,simprocAttr,hs,w];rw[Ze];simp only[go_sem,simprocAttr,hs,A];rw[Ze];simp only[go_sem,simprocAttr,hs,B];rw[Ze];simp only[go_sem,simprocAttr,hs,D];rw[Ze];simp only[go_sem,simprocAttr,hs,E];rw[Ze];simp only[go_sem,simprocAttr,O,P,S,C];rfl
theorem Zgr(s p:List UInt8):R K (.call 102 [.str s,.str p] [])=some (.bool (Lib.hasPrefix s p),[]):=Qn rfl
theorem Zcg(c:UInt8):(((c.toNat:Nat):Int)==39)=(c==39):=ZBx c 39 (by omega)
theorem Zm8(s:List UInt8)(hs:s.length≤10000000):R K (.call 338 [.str s] [])=some (enc (Yg s),[]):=by
 by_cases F:s=JT
 ·have e:Yg s=X7 true:=by rw[F];exact Zke
  have q:(s==JT)=true:=by simp[F]
  rw[e];rw[WK];simp only[go_sem,simprocAttr,f338,q,Zf9]
 by_cases h2:s=JM
 ·have e:Yg s=X7 false:=by rw[h2];exact ZiS
  have q:(s==JT)=false:=by simpa using F
  have b:(s==JM)=true:=by simp[h2]
  rw[e];rw[WK];simp only[go_sem,simprocAttr,f338,q,b,Zf9]
 have q:(s==JT)=false:=by simpa using F
 have b:(s==JM)=false:=by simpa using h2
 have S:¬(s=JT∨s=JM):=fun h=>h.elim F h2;have w:¬(2≤s.length∧s[0]?=some 39∧s[s.length-1]?=some 39)→Yg s=(if Lib.hasPrefix s [64]=true then Z3 (s.drop 1)else match Yi s with
  |some n=>⟨2,n,[]⟩
  |none=>null):=fun D=>by unfold Yg;rw[Vm S,Vm D]<;>cases Yi s<;>rfl
 have A:1≤s.length→Zx .i64 ((s.length:Int)-1)=((s.length-1:Nat):Int):=fun h=>by rw[Zq (by omega) (by omega)];omega
 have q4:(s.drop 1).length≤s.length:=by simp
 by_cases D:(2≤s.length∧s[0]?=some 39∧s[s.length-1]?=some 39)
 ·have e:Yg s=⟨3,0,Lib.replaceAll (cut s 1 (s.length-1)) [39,39] [39]⟩:=by unfold Yg;rw[Vm S,Vr D]
  obtain⟨L,W,Y⟩:=D;have A:=A (by omega);have o:decide ((2:Int)≤(s.length:Int))=true:=by rw[VK];omega
  have E:at? s 0=some 39:=WO W;have G:=WO Y;have B:((0:Int)≤((s.length-1:Nat):Int))=True:=V5 (by omega);have H:(((s.length-1:Nat):Int)≤(s.length:Int))=True:=V5 (by omega);have Z:((1:Int)≤((s.length-1:Nat):Int))=True:=V5 (by omega);have M:((1:Int)≤(s.length:Int))=True:=V5 (by omega);have O:(1:Int).toNat=1:=rfl;have g8:((39:UInt8).toNat:Int)=39:=rfl;have hr:=Zdk (List.take (s.length-1-1) (List.drop 1 s)) [39,39] [39] (by simp;omega) (by simp) (by simp;omega);rw[e];rw[WK];simp only[go_sem,simprocAttr,f338,q,b,o,E,G,B,H,Z,O,M,A,Vk,hr]
  all_goals rfl
 rw[w D];by_cases h3:Lib.hasPrefix s [64]=true
 ·have P:∃r,s=64::r:=by
   match s,h3 with
   |[],h3=>simp[Lib.hasPrefix]at h3
   |c::r,h3 =>
    by_cases C:c=64
    ·exact⟨r,by rw[C]⟩
    rw[Zo4 c r C]at h3;simp at h3
  obtain⟨r,rfl⟩:=P;rw[Vr h3];have d:=Ziz r;have u:=Zgr (64::r) [64];rw[h3]at u;have g8:((64:UInt8).toNat:Int)=64:=rfl;have M:((1:Int)≤((r.length+1:Nat):Int))=True:=V5 (by omega);have O:(1:Int).toNat=1:=rfl;have a0:((r.length+1:Nat):Int).toNat=r.length+1:=rfl;by_cases h4:2≤r.length+1
  ·have o:decide ((2:Int)≤((r.length+1:Nat):Int))=true:=by rw[VK];omega
   rw[WK];simp only[go_sem,simprocAttr,f338,q,b,o,Zzd,u,M,O,PC,ST,d]
   all_goals rfl
  have o:decide ((2:Int)≤((r.length+1:Nat):Int))=false:=by simp;omega
  rw[WK];simp only[go_sem,simprocAttr,f338,q,b,o,u,M,O,PC,ST,d]
  all_goals rfl
 have Q:Lib.hasPrefix s [64]=false:=by simpa using h3
 rw[Vm h3];have u:=Zgr s [64];rw[Q]at u;have a1:∀{X:AV},True:=fun{X}=>trivial;cases U:Yi s with
 |none =>
  obtain⟨z,a⟩:=Xj s (by omega) U;by_cases L:2≤s.length
  ·have o:decide ((2:Int)≤(s.length:Int))=true:=by rw[VK];omega
   obtain⟨c,C⟩:=Zu (l:=s) (i:=0) (by omega);have E:at? s 0=some c:=WO C;have A:=A (by omega);obtain⟨d,J⟩:=Zu (l:=s) (i:=s.length-1) (by omega);have G:=WO J;by_cases m:c=39
   ·have B:(c==39)=true:=by simp[m]
    have H:(d==39)=false:=by have:d≠39:=fun e=>D ⟨L,by rw[C,m],by rw[J,e]⟩;simpa using this
    rw[WK];simp only[go_sem,simprocAttr,f338,q,b,o,E,G,B,H,Zcg,A,u,a]
    all_goals rfl
   have B:(c==39)=false:=by simpa using m
   rw[WK];simp only[go_sem,simprocAttr,f338,q,b,o,E,B,Zcg,u,a]
   all_goals rfl
  have o:decide ((2:Int)≤(s.length:Int))=false:=by simp;omega
  rw[WK];simp only[go_sem,simprocAttr,f338,q,b,o,u,a]
  all_goals rfl
 |some n =>
  have a:=Xh s n (by omega) U;by_cases L:2≤s.length
  ·have o:decide ((2:Int)≤(s.length:Int))=true:=by rw[VK];omega
   obtain⟨c,C⟩:=Zu (l:=s) (i:=0) (by omega);have E:at? s 0=some c:=WO C;have A:=A (by omega);obtain⟨d,J⟩:=Zu (l:=s) (i:=s.length-1) (by omega);have G:=WO J;by_cases m:c=39
   ·have B:(c==39)=true:=by simp[m]
    have H:(d==39)=false:=by have:d≠39:=fun e=>D ⟨L,by rw[C,m],by rw[J,e]⟩;simpa using this
    rw[WK];simp only[go_sem,simprocAttr,f338,q,b,o,E,G,B,H,Zcg,A,u,a]
   have B:(c==39)=false:=by simpa using m
   rw[WK];simp only[go_sem,simprocAttr,f338,q,b,o,E,B,Zcg,u,a]
  have o:decide ((2:Int)≤(s.length:Int))=false:=by simp;omega
  rw[WK];simp only[go_sem,simprocAttr,f338,q,b,o,u,a]
theorem Zz3(a b:Int):R K (.call 216 [I a,I b] [])=some (.bool (Zej a b),[]):=by
 rw[ZtJ];simp only[go_sem,simprocAttr,f216,Xe]
 repeat' ((first|apply ZG|apply ZK|apply ZT)<;>intro e<;>simp only[e,go_sem,simprocAttr,Xe])
 all_goals simp_all[Zej]
theorem ZqF(v:Val)(h:v.k=4→0≤v.n∧v.n≤253402300799):R K (.call 296 [V v.k v.n v.s] [])=some (.str (Wf v),[]):=by
 by_cases h3:v.k=3
 ·have e:Wf v=v.s:=Vr h3;rw[e];rw[Zid];simp only[go_sem,simprocAttr,f296,h3]
 by_cases b:v.k=4
 ·have e:Wf v=XJ v.n:=by unfold Wf;rw[Vm h3,Vr b]
  have m:=Zd0 v.n (h b).1 (h b).2;rw[e];rw[Zid];simp only[go_sem,simprocAttr,f296,b,m]
 have e:Wf v=YU v:=by unfold Wf;rw[Vm h3,Vm b]
 have o:(v.k==3)=false:=by simpa using h3
 have q:(v.k==4)=false:=by simpa using b
 have hs:=ZAM v.k v.n v.s;rw[Val.eta]at hs;rw[e];rw[Zid];simp only[go_sem,simprocAttr,f296,o,q,hs]
theorem Zp1(s:List UInt8)(kind:Int)(hs:s.length≤10000000):R K (.call 297 [.str s,I kind] [])=some (enc (ZdA s kind),[]):=by
 have e:=Zm8 s hs;have h2:=Ziz s;have key:∀(v:Val) (b:Bool),b=(kind==4)→(if kind=4 then Z3 s else Yg s)=v→(b=true→Z3 s=v)→(b=false→Yg s=v)→R K (.call 297 [.str s,I kind] [])=some (enc (ZdA s kind),[]):=by
  intro v b r F B C;have m:=Zld v.k v.n v.s;rw[Val.eta]at m;have E:ZdA s kind=if Z9 v=true∧v.k=kind∧Wf v=s then v else null:=by unfold ZdA;rw[F]
  rw[E];cases u:Z9 v with
  |false =>
   rw[u]at m;rw[Vm (by simp)];cases b with
   |true =>
    rw[B rfl]at h2;rw[JD];simp only[go_sem,simprocAttr,f297,e,←r,h2,m]
    all_goals rfl
   |false =>
    rw[C rfl]at e;rw[JD];simp only[go_sem,simprocAttr,f297,e,←r,m]
    all_goals rfl
  |true =>
   rw[u]at m;have G:v.k=4→0≤v.n∧v.n≤253402300799:=fun h=>J8 h u;have o:=ZqF v G;by_cases q:v.k=kind
   ·have w:(v.k==kind)=true:=by simp[q]
    by_cases D:Wf v=s
    ·have A:(Wf v==s)=true:=by simp[D]
     rw[Vr ⟨rfl,q,D⟩];cases b with
     |true =>
      rw[B rfl]at h2;rw[JD];simp only[go_sem,simprocAttr,f297,bne,e,←r,h2,m,w,o,A]
     |false =>
      rw[C rfl]at e;rw[JD];simp only[go_sem,simprocAttr,f297,bne,e,←r,m,w,o,A]
    have A:(Wf v==s)=false:=by simpa using D
    rw[Vm (fun h=>D h.2.2)];cases b with
    |true =>
     rw[B rfl]at h2;rw[JD];simp only[go_sem,simprocAttr,f297,bne,e,←r,h2,m,w,o,A]
     all_goals rfl
    |false =>
     rw[C rfl]at e;rw[JD];simp only[go_sem,simprocAttr,f297,bne,e,←r,m,w,o,A]
     all_goals rfl
   have w:(v.k==kind)=false:=by simpa using q
   rw[Vm (fun h=>q h.2.1)];cases b with
   |true =>
    rw[B rfl]at h2;rw[JD];simp only[go_sem,simprocAttr,f297,bne,e,←r,h2,m,w]
    all_goals rfl
   |false =>
    rw[C rfl]at e;rw[JD];simp only[go_sem,simprocAttr,f297,bne,e,←r,m,w]
    all_goals rfl
 by_cases q:kind=4
 ·exact key _ true (by simp[q]) (Vr q) (fun _=>rfl) (fun h=>by simp at h)
 exact key _ false (by simp[q]) (Vm q) (fun h=>by simp at h) (fun _=>rfl)
theorem ZBn(k n:Int)(s:List UInt8)(kind:Int):R K (.call 215 [V k n s,I kind] [])=some (enc (QU ⟨k,n,s⟩ kind),[]):=by
 have e:=Zhk k n s;generalize F:(⟨k,n,s⟩:Val)=a;rw[F]at e;have A:=WQ a;unfold QU;by_cases r:(Zo a).k=0
 ·rw[Vr (.inl r)];have m:((Zo a).k==0)=true:=by simp[r]
  rw[Zay];simp only[go_sem,simprocAttr,f215,e,m]
  all_goals rfl
 have m:((Zo a).k==0)=false:=by simpa using r
 have b:=Zz3 (Zo a).k kind;cases D:Zej (Zo a).k kind with
 |false =>
  rw[D]at b;rw[Vr (.inr rfl)];rw[Zay];simp only[go_sem,simprocAttr,f215,e,m,b]
  all_goals rfl
 |true =>
  rw[D]at b;rw[Vm (by simp[r])];by_cases u:(Zo a).k=kind
  ·have o:((Zo a).k==kind)=true:=by simp[u]
   rw[Vr u];rw[Zay];simp only[go_sem,simprocAttr,f215,e,m,b,o]
  have o:((Zo a).k==kind)=false:=by simpa using u
  rw[Vm u];by_cases h3:kind=3
  ·subst h3;rw[Vr rfl];have B:=ZqF (Zo a) (fun h=>J8 h A);rw[Zay];simp only[go_sem,simprocAttr,f215,e,m,b,o,B,ZBg]
  have E:(kind==3)=false:=by simpa using h3
  rw[Vm h3];by_cases q:(Zo a).k=3
  ·rw[Vr q];have w:((Zo a).k==3)=true:=by simp[q]
   have G:=Zp1 (Zo a).s kind (by have:=(ZlI a q).1;omega);rw[Zay];simp only[go_sem,simprocAttr,f215,e,m,b,o,E,w,G]
  have w:((Zo a).k==3)=false:=by simpa using q
  rw[Vm q];by_cases C:kind=1
  ·subst C;rw[Vr rfl];rw[Zay];simp only[go_sem,simprocAttr,f215,e,m,b,o,w,Zf9]
   all_goals rfl
  have H:(kind==1)=false:=by simpa using C
  rw[Vm C];rw[Zay];simp only[go_sem,simprocAttr,f215,e,m,b,o,E,w,H,Zoe]
def Ql(v:Val):List AV:=[.int .i64 v.k,.int .i64 v.n,.str v.s]
theorem WX(b:Bool):R K (.call 238 [.bool b] [])=some (enc (X7 b),[]):=by
 rw[Zs5];simp only[go_sem,simprocAttr,f238]
 repeat' ((first|apply ZG|apply ZK|apply ZT)<;>intro e<;>simp only[e,go_sem,simprocAttr])
 all_goals simp_all[X7]
theorem Zzt{l:List Val}(h:l[i]?=some v):at? (l.map Ql) (i:Int)=some (Ql v):=ZW (by simp[h])
theorem ZiF(k n:Int)(s:List UInt8):R K (.call 310 [V k n s] [])=some (.int .i64 (JJ ⟨k,n,s⟩),[]):=by
 have b:∀v:Val,Zc8 0 v=JJ v:=fun v=>by simp[Zc8,JJ]
 rw[ZtA];simp only[go_sem,simprocAttr,f310,Zqt,b]
theorem ZeK(k n:Int)(s:List UInt8):R K (.call 235 [V k n s] [])=some (enc (Zo ⟨k,n,s⟩),[]):=by
 have h:=Zgt ⟨k,n,s⟩;rw[Zvo];simp only[go_sem,simprocAttr,f235,ZiF]
 repeat' ((first|apply ZG|apply ZK|apply ZT)<;>intro b<;>simp only[b,go_sem,simprocAttr,ZiF])
 all_goals simp_all[Zo,null]
theorem ZaQ(n:Int):R K (.call 240 [.int .i64 n] [])=some (enc (Xf 2 n),[]):=by
 rw[Zxl];simp only[go_sem,simprocAttr,f240,ZeK]
 all_goals simp[Xf]
theorem ZnL(n:Int):R K (.call 239 [.int .i64 n] [])=some (enc (Xf 4 n),[]):=by
 rw[ZuQ];simp only[go_sem,simprocAttr,f239,ZeK]
 all_goals simp[Xf]
theorem ZhR(s:List UInt8):R K (.call 311 [.str s] [])=some (enc (JE s),[]):=by
 rw[Zxb];simp only[go_sem,simprocAttr,f311,ZeK]
 all_goals simp[JE]
theorem ZsN(u:Nat):∃c r,Lib.decDigits u=c::r∧48≤c.toNat∧c.toNat≤57:=by
 induction u using Nat.strongRecOn with
 |_ u b =>
  by_cases h:u<10
  ·refine⟨UInt8.ofNat (48+u),[],?_,?_,?_⟩
   ·rw[Lib.decDigits,dif_pos h]
   ·have:(UInt8.ofNat (48+u)).toNat=48+u:=by simp[SW];omega
    omega
   have:(UInt8.ofNat (48+u)).toNat=48+u:=by simp[SW];omega
   omega
  obtain⟨c,r,e,m,h2⟩:=b (u/10) (by omega);exact⟨c,r++[UInt8.ofNat (48+u%10)],by rw[Lib.decDigits,dif_neg h,e];rfl,m,h2⟩
theorem Zht(n:Int):∃c r,Lib.itoa n=c::r∧(c=45∨(48≤c.toNat∧c.toNat≤57)):=by
 unfold Lib.itoa;split
 ·exact⟨45,_,rfl,.inl rfl⟩
 obtain⟨c,r,e,h⟩:=ZsN n.toNat;exact⟨c,r,e,.inr h⟩
theorem ZhM(b:Bool):Lib.formatBool b=if b=true then JT else JM:=by cases b<;>decide +kernel
noncomputable def YK(s:List UInt8):List Val :=
 [null,X7 true,X7 false]++(match Yi s with
  |some n=>[Xf 2 n]
  |none=>[])++(if 1<s.length∧s[0]?=some 39 then[JE (Lib.replaceAll (cut s 1 (s.length-1)) [39,39] [39])]else[]) ++
 (if(Z3 (Lib.trimPrefix s [64])).k=4 then[Z3 (Lib.trimPrefix s [64])]else[])
theorem ZpT:Zo null=null:=by decide
theorem ZrC:YU null=ZkG:=by simp only[YU,ZpT];simp[null]
theorem ZbJ(b:Bool):Z9 (X7 b)=true:=by cases b<;>decide
theorem Zbi(b:Bool):YU (X7 b)=if b=true then JT else JM:=by
 have:=Yt (ZbJ b);cases b
 ·simp only[YU,this];simp[X7,ZhM]
 simp only[YU,this];simp[X7,ZhM]
theorem Zek(s:List UInt8):JE s=null∨(JE s=⟨3,0,s⟩∧Z9 ⟨3,0,s⟩=true):=by
 unfold JE Zo;split
 ·rename_i h;exact .inr ⟨rfl,h⟩
 exact .inl rfl
theorem Zct(h:Z9 ⟨2,n,[]⟩=true):YU ⟨2,n,[]⟩=Lib.itoa n:=by simp[YU,Yt h]
theorem ZrI(h:Z9 ⟨3,0,s⟩=true):YU ⟨3,0,s⟩=[39]++Lib.replaceAll s [39] [39,39]++[39]:=by simp[YU,Yt h]
theorem ZaY(s:List UInt8):Z3 s=null∨((Z3 s).k=4∧Z9 (Z3 s)=true∧XJ (Z3 s).n=s):=by
 unfold Z3;split
 ·split
  ·rename_i a b c d e f _;split
   ·exact .inl rfl
   rename_i h;rcases ZdX a b c d e f with h2|h2
   ·rw[h2]at h;simp[null]at h
   exact .inr ⟨h2.1,h2.2.2,by simpa using(So.1 h).2⟩
  exact .inl rfl
 exact .inl rfl
theorem Za1(b:v.k=4)(e:Z9 v=true):YU v=64::XJ v.n:=by simp[YU,Yt e,b]
theorem ZrH:Yi ZkG=none:=by decide +kernel
theorem Zr5:Yg ZkG=null:=by unfold Yg;rw[Vm (by decide),Vm (by decide),Vm (by decide),ZrH]
theorem Zhp(r:List UInt8):Lib.trimPrefix (64::r) [64]=r:=by simp[Lib.trimPrefix,Lib.hasPrefix]
theorem ZBm(r:List UInt8):Lib.hasPrefix (64::r) [64]=true:=by simp[Lib.hasPrefix]
theorem ZyG(c:UInt8)(r:List UInt8)(h:c≠64):Lib.trimPrefix (c::r) [64]=c::r:=by simp[Lib.trimPrefix,Zo4 c r h]
theorem Zpv(b:v∈YK s)(hs:YU v=s):v=Yg s∧Z9 (Yg s)=true:=by
 unfold YK at b;simp only[Vg,Vn,V3,UR]at b;have D:v=null→v=Yg s∧Z9 (Yg s)=true:=by rintro rfl;rw[ZrC]at hs;rw[←hs,Zr5];exact⟨rfl,ZiY⟩
 rcases b with(((rfl|rfl|rfl)|b)|b)|b
 ·exact D rfl
 ·rw[Zbi]at hs;have hs:JT=s:=by simpa using hs
  have:Yg s=X7 true:=by rw[←hs];unfold Yg;rw[Vr (by decide)];rfl
  rw[this];exact⟨rfl,ZbJ _⟩
 ·rw[Zbi]at hs;have hs:JM=s:=by simpa using hs
  have:Yg s=X7 false:=by rw[←hs];unfold Yg;rw[Vr (by decide)];rfl
  rw[this];exact⟨rfl,ZbJ _⟩
 ·cases E:Yi s with
  |none=>rw[E]at b;simp at b
  |some n =>
   rw[E]at b;simp only[Vn,V3,UR]at b;subst b;rcases Zb3 2 n with h|⟨h,q⟩
   ·exact D h
   rw[h]at hs ⊢;rw[Zct q]at hs;obtain⟨c,r,e,m⟩:=Zht n;rw[hs]at e;have J:(45:UInt8).toNat=45:=rfl;have u:c≠39:=by rintro rfl;rcases m with m|m<;>simp at m
   have w:c≠64:=by rintro rfl;rcases m with m|m<;>simp at m
   have F:c≠116:=by rintro rfl;rcases m with m|m<;>simp at m
   have G:c≠102:=by rintro rfl;rcases m with m|m<;>simp at m
   have:Yg s=⟨2,n,[]⟩:=by unfold Yg;rw[E,Vm (by rw[e];simp[F,G]),Vm (by rw[e];simp[u]),Vm (by rw[e,Zo4 c r w];simp)]
   rw[this];exact⟨rfl,q⟩
 ·by_cases B:1<s.length∧s[0]?=some 39
  ·rw[Vr B]at b;simp only[Vn,V3,UR]at b;subst b;rcases Zek (Lib.replaceAll (cut s 1 (s.length-1)) [39,39] [39])with h|⟨h,q⟩
   ·exact D h
   rw[h]at hs ⊢;rw[ZrI q]at hs;have o:s[s.length-1]?=some 39:=by rw[←hs];simp
   have A:s[0]?=some 39:=B.2;have:Yg s=⟨3,0,Lib.replaceAll (cut s 1 (s.length-1)) [39,39] [39]⟩:=by unfold Yg;rw[Vm (by rintro(rfl|rfl)<;>simp at A),Vr ⟨B.1,A,o⟩]
   rw[this];exact⟨rfl,q⟩
  rw[Vm B]at b;simp at b
 by_cases C:(Z3 (Lib.trimPrefix s [64])).k=4
 ·rw[Vr C]at b;simp only[Vn,V3,UR]at b;rcases ZaY (Lib.trimPrefix s [64])with h|⟨H,h2,h3⟩
  ·rw[h]at C;simp[null]at C
  rw[←b]at H h2 h3;rw[Za1 H h2]at hs;have e:Lib.trimPrefix s [64]=XJ v.n:=h3.symm;have:Yg s=v:=by unfold Yg;rw[Vm (by rw[←hs];simp),Vm (by rw[←hs];simp),Vr (by rw[←hs];exact ZBm _),b,e,←hs];rfl
  rw[this];exact⟨rfl,h2⟩
 rw[Vm C]at b;simp at b
theorem Zpo(m:Z9 (Yg s)=true):Yg s∈YK s:=by
 by_cases b:s=JT∨s=JM
 ·have e:Yg s=X7 (decide (s=JT)):=by unfold Yg;rw[Vr b]
  rw[e];unfold YK;cases decide (s=JT)<;>simp
 by_cases h2:2≤s.length∧s[0]?=some 39∧s[s.length-1]?=some 39
 ·have e:Yg s=⟨3,0,Lib.replaceAll (cut s 1 (s.length-1)) [39,39] [39]⟩:=by unfold Yg;rw[Vm b,Vr h2]
  rw[e]at m ⊢;have:JE (Lib.replaceAll (cut s 1 (s.length-1)) [39,39] [39])=⟨3,0,Lib.replaceAll (cut s 1 (s.length-1)) [39,39] [39]⟩:=Yt m;unfold YK;rw[Vr (show 1<s.length∧s[0]?=some 39 from⟨h2.1,h2.2.1⟩),this];simp
 by_cases h3:Lib.hasPrefix s [64]=true
 ·have e:Yg s=Z3 (s.drop 1):=by unfold Yg;rw[Vm b,Vm h2,Vr h3]
  have q:Lib.trimPrefix s [64]=s.drop 1:=by unfold Lib.trimPrefix;rw[Vr h3];rfl
  rw[e];rcases ZaY (s.drop 1)with h|⟨r,_,_⟩
  ·rw[h];unfold YK;simp
  unfold YK;rw[q,Vr r];simp
 cases o:Yi s with
 |none =>
  have e:Yg s=null:=by unfold Yg;rw[Vm b,Vm h2,Vm h3,o]
  rw[e];unfold YK;simp
 |some n =>
  have e:Yg s=⟨2,n,[]⟩:=by unfold Yg;rw[Vm b,Vm h2,Vm h3,o]
  rw[e]at m ⊢;have:Xf 2 n=⟨2,n,[]⟩:=Yt m;unfold YK;rw[o];simp only[this];simp
noncomputable def Y3(v:Val):Val:=if v.k=3 then v else JE (Lib.trimPrefix (YU v) [64])
noncomputable def ZaP(w:Val)(kind:Int)(x:Val):Bool:=x.k==kind&&decide (Y3 x=w)
noncomputable def Zhj(a:Val)(kind:Int):Val :=
 if(Zo a).k=0∨Zej (Zo a).k kind=false then null
 else if(Zo a).k=kind then Zo a
 else if kind=3 then Y3 (Zo a)
 else if(Zo a).k=3 then(match(YK (Zo a).s++YK ([64]++(Zo a).s)).find? (ZaP (Zo a) kind)with
  |some x=>x
  |none=>null)
 else if kind=1 then X7 (!((Zo a).n==0))
 else if kind=4 then Xf 4 (Zo a).n
 else Xf 2 (Zo a).n
theorem Zzf{t:List UInt8}(h:JE t=⟨3,0,s⟩):t=s:=by
 rcases Zek t with e|⟨e,_⟩
 ·rw[e]at h;simp[null]at h
 rw[e]at h;simpa using h
theorem ZfL(n:Int):Lib.trimPrefix (Lib.itoa n) [64]=Lib.itoa n:=by
 obtain⟨c,r,e,h⟩:=Zht n;rw[e];refine ZyG c r ?_;rintro rfl;rcases h with h|h
 ·simp at h
 simp at h
theorem Zgd(b:Bool):Lib.trimPrefix (if b=true then JT else JM) [64]=if b=true then JT else JM:=by cases b<;>decide
theorem ZxC(r:List UInt8):Yi (64::r)=none:=by
 have e:Lib.atoiAll (64::r)=Lib.NumEnd.syntax:=by rw[Lib.atoiAll_plain 64 r (by decide) (by decide)];rfl
 unfold Yi;rw[e]
theorem ZhP(h:x∈YK s):x=null∨(∃b,x=X7 b)∨(∃n,Yi s=some n∧x=⟨2,n,[]⟩∧Z9 x=true)∨x.k=3∨(x=Z3 (Lib.trimPrefix s [64])∧x.k=4∧Z9 x=true∧XJ x.n=Lib.trimPrefix s [64]):=by
 unfold YK at h;simp only[Vg,Vn,V3,UR]at h;rcases h with(((rfl|rfl|rfl)|h)|h)|h
 ·exact .inl rfl
 ·exact .inr (.inl ⟨true,rfl⟩)
 ·exact .inr (.inl ⟨false,rfl⟩)
 ·cases m:Yi s with
  |none=>rw[m]at h;simp at h
  |some n =>
   rw[m]at h;simp only[Vn,V3,UR]at h;subst h;rcases Zb3 2 n with e|⟨e,o⟩
   ·exact .inl e
   rw[e];exact .inr (.inr (.inl ⟨n,rfl,rfl,o⟩))
 ·by_cases q:1<s.length∧s[0]?=some 39
  ·rw[Vr q]at h;simp only[Vn,V3,UR]at h;subst h;rcases Zek (Lib.replaceAll (cut s 1 (s.length-1)) [39,39] [39])with e|⟨e,o⟩
   ·exact .inl e
   rw[e];exact .inr (.inr (.inr (.inl rfl)))
  rw[Vm q]at h;simp at h
 by_cases r:(Z3 (Lib.trimPrefix s [64])).k=4
 ·rw[Vr r]at h;simp only[Vn,V3,UR]at h;subst h;rcases ZaY (Lib.trimPrefix s [64])with e|⟨u,h2,h3⟩
  ·exact .inl e
  exact .inr (.inr (.inr (.inr ⟨rfl,u,h2,h3⟩)))
 rw[Vm r]at h;simp at h
theorem ZkQ(b:x.k≠3)(h:Y3 x=⟨3,0,s⟩):Lib.trimPrefix (YU x) [64]=s:=by unfold Y3 at h;rw[Vm b]at h;exact Zzf h
theorem Zir(b:(if kind=4 then Z3 s else Yg s)=x)(h2:Z9 x=true)(h3:x.k=kind)(e:Wf x=s):ZdA s kind=x:=by unfold ZdA;rw[b,Vr ⟨h2,h3,e⟩]
theorem Zvz(F:kind≠3)(G:kind≠0)(w:x∈YK s++YK ([64]++s))(A:ZaP ⟨3,0,s⟩ kind x=true):ZdA s kind=x:=by
 unfold ZaP at A;simp only[VA,Up,VK]at A;obtain⟨m,H⟩:=A;have o:=ZkQ (by rw[m];exact F) H;have q:∀t,x∈YK t→(∀n,Yi t=some n→t=s)→(Lib.trimPrefix t [64]=s→x=Z3 (Lib.trimPrefix t [64])→x=Z3 s)→ZdA s kind=x:=by
  intro t w J L;rcases ZhP w with rfl|⟨b,rfl⟩|⟨n,r,rfl,u⟩|h|⟨M,h2,h3,O⟩
  ·exact absurd m.symm G
  ·rw[Zbi,Zgd]at o;have B:kind=1:=m.symm;subst B;refine Zir ?_ (ZbJ b) rfl ?_
   ·rw[Vm (by decide),←o];cases b
    ·exact ZiS
    exact Zke
   unfold Wf;rw[Vm (by simp[X7]),Vm (by simp[X7]),Zbi,o]
  ·have C:kind=2:=m.symm;subst C;rw[Zct u,ZfL]at o;have:=J n r;subst this;have P:(⟨2,n,[]⟩:Val)∈YK t:=by unfold YK;rw[r];have:Xf 2 n=⟨2,n,[]⟩:=Yt u;simp[this]
   have D:=Zpv P ((Zct u).trans o);refine Zir ?_ u rfl ?_
   ·rw[Vm (by decide)];exact D.1.symm
   unfold Wf;rw[Vm (by simp),Vm (by simp),Zct u,o]
  ·exact absurd (m.symm.trans h) F
  have E:kind=4:=m.symm.trans h2;subst E;rw[Za1 h2 h3,Zhp]at o;have hs:Lib.trimPrefix t [64]=s:=by rw[←O];exact o
  refine Zir ?_ h3 h2 ?_
  ·rw[Vr rfl];exact(L hs M).symm
  unfold Wf;rw[Vm (by rw[h2];decide),Vr h2,o]
 rcases Vg.1 w with h|h
 ·exact q s h (fun _ _=>rfl) (fun e h2=>by rw[e]at h2;exact h2)
 exact q ([64]++s) h (fun n r=>by rw[show[64]++s=64::s from rfl,ZxC]at r;simp at r) (fun e h2=>by rw[e]at h2;exact h2)
theorem Zt0(F:kind=1∨kind=2∨kind=4)(C:Z9 ⟨3,0,s⟩=true)(h:Z9 (if kind=4 then Z3 s else Yg s)=true∧(if kind=4 then Z3 s else Yg s).k=kind∧Wf (if kind=4 then Z3 s else Yg s)=s):
  (if kind=4 then Z3 s else Yg s)∈YK s++YK ([64]++s)∧ZaP ⟨3,0,s⟩ kind (if kind=4 then Z3 s else Yg s)=true:=by
 obtain⟨w,h2,h3⟩:=h;have ts:JE s=⟨3,0,s⟩:=Yt C;by_cases r:kind=4
 ·subst r;simp only[V7]at w h2 h3 ⊢;rcases ZaY s with e|⟨u,D,E⟩
  ·rw[e]at h2;simp[null]at h2
  refine⟨Vg.2 (.inr ?_),?_⟩
  ·unfold YK;rw[show[64]++s=64::s from rfl,Zhp,Vr u];simp
  unfold ZaP Y3;rw[Vm (by rw[u];decide),Za1 u D,Zhp,E,ts];simp[u]
 rw[Vm r]at w h2 h3 ⊢;have m:(Yg s).k≠3:=by rw[h2];omega
 have o:YU (Yg s)=s:=by
  unfold Wf at h3
  rwa [Vm m,Vm (by rw[h2];exact r)]at h3
 have B:=Zpo w;refine⟨Vg.2 (.inl B),?_⟩;unfold ZaP Y3;rw[Vm m,o];have A:Lib.trimPrefix s [64]=s:=by
  rcases ZhP B with e|⟨b,e⟩|⟨n,_,e,q⟩|e|⟨_,e,_⟩
  ·rw[e]at h2;simp[null]at h2;omega
  ·rw[←o,e,Zbi];exact Zgd b
  ·rw[←o,e];rw[e]at q;rw[Zct q];exact ZfL n
  ·exact absurd e m
  exact absurd (h2.symm.trans e) r
 rw[A,ts];simp[h2]
theorem ZsQ(h:(Zo v).k=3):Zo v=⟨3,0,(Zo v).s⟩:=by
 have b:=WQ v;have e:(Zo v).n=0:=by simp only[Z9,Jv,VA]at b;rw[Vm (by rw[h];decide),Vr h]at b;simpa using b.1
 cases m:Zo v;rw[m]at h e;simp only at h e;subst h e;rfl
theorem Zn8(a:Val)(kind:Int):Zhj a kind=QU a kind:=by
 unfold Zhj QU;by_cases m:(Zo a).k=0∨Zej (Zo a).k kind=false
 ·rw[Vr m,Vr m]
 rw[Vm m,Vm m];by_cases h2:(Zo a).k=kind
 ·rw[Vr h2,Vr h2]
 rw[Vm h2,Vm h2];obtain⟨D,q⟩:=So.1 m;have q:Zej (Zo a).k kind=true:=by simpa using q
 have r:(1≤(Zo a).k∧(Zo a).k≤4)∧(1≤kind∧kind≤4):=by simp only[Zej,ZY,VA,VK]at q;exact q.1
 by_cases h3:kind=3
 ·rw[Vr h3,Vr h3];have B:(Zo a).k≠3:=by rw[h3]at h2;exact h2
  unfold Y3 Wf;rw[Vm B,Vm B];have o:=WQ a;by_cases b:(Zo a).k=4
  ·rw[Vr b,Za1 b o,Zhp]
  rw[Vm b];congr 1;have C:=Yt o;unfold YU;rw[C];by_cases e:(Zo a).k=1
  ·rw[Vr e,ZhM];exact Zgd _
  rw[Vm e,Vr (by omega)];exact ZfL _
 rw[Vm h3,Vm h3];by_cases b:(Zo a).k=3
 ·rw[Vr b,Vr b];have u:=ZsQ b;have o:Z9 ⟨3,0,(Zo a).s⟩=true:=by rw[←u];exact WQ a
  generalize hs:(Zo a).s=s at o u ⊢;rw[u];cases w:(YK s++YK ([64]++s)).find? (ZaP ⟨3,0,s⟩ kind)with
  |some x=>exact(Zvz h3 (by omega) (List.mem_of_find?_eq_some w) (List.find?_some w)).symm
  |none =>
   unfold ZdA;rw[Vm];intro h;have:=Zt0 (by omega) o h;exact List.find?_eq_none.1 w _ this.1 this.2
 rw[Vm b,Vm b];by_cases e:kind=1
 ·rw[Vr e,Vr e]
 rw[Vm e,Vm e];by_cases A:kind=4
 ·rw[Vr A,A]
 rw[Vm A];have:kind=2:=by omega
 rw[this]
theorem Zmp(y:Int)(h:0≤y):R K (.call 391 [.int .i64 y] [])=some (.bool (ZdD y),[]):=by
 rw[Zvv];simp only[go_sem,simprocAttr,f391,tm y _ h]
 repeat' ((first|apply ZG|apply ZK|apply ZT)<;>intro b<;>simp only[b,go_sem,simprocAttr,tm y _ h])
 all_goals simp_all[ZdD]
theorem ZBA(y m:Int)(h:0≤y):R K (.call 378 [.int .i64 y,.int .i64 m] [])=some (.int .i64 (mdS y m),[]):=by
 rw[Zus];simp only[go_sem,simprocAttr,f378,Zmp y h]
 repeat' ((first|apply ZG|apply ZK|apply ZT)<;>intro b<;>simp only[b,go_sem,simprocAttr,Zmp y h])
 all_goals simp_all[mdS]
theorem Zd3(y:Int)(h:0≤y):R K (.call 379 [.int .i64 y] [])=some (.int .i64 (Zgl y),[]):=by
 rw[ZwW];simp only[go_sem,simprocAttr,f379,Zmp y h]
 repeat' ((first|apply ZG|apply ZK|apply ZT)<;>intro b<;>simp only[b,go_sem,simprocAttr,Zmp y h])
 all_goals simp_all[Zgl]
theorem ZnQ(d n z:Int)(w:ydS z≤d)(h2:d<ydS (z+1))(A:z≤9999)(C:0≤d∧d≤3000000)(ks:List It):∀(m:Nat) (y:Int) (B:Code),YP f371 0 B→y+m=z→1970≤y →
  RL K (.run 371 0 (.code B::.lp B (some ([0,2,3,4,5],[])) 1::.blk 0 1::ks) [(0,I n),(2,.ptr 0 0),(3,I (d-ydS y)),(4,I y),(5,I 1)] [.cells [I 0,I 0,I 0,I 0,I 0,I 0]]) =
  R K (.run 371 0 ks [(0,I n),(2,.ptr 0 0),(3,I (d-ydS z)),(4,I z),(5,I 1)] [.cells [I 0,I 0,I 0,I 0,I 0,I 0]])
 |0,y,B,b,D,u=>by
  have e:y=z:=by omega
  subst e;have o:=Zd3 y (by omega);have q:decide (Zgl y≤d-ydS y)=false:=by have:=Qj y;simp;omega
  simp only[go_sem,simprocAttr,f371]at b;subst b;rw[Ze];simp only[go_sem,simprocAttr,o,q]
 |m+1,y,B,b,D,u=>by
  have r:=b;have E:Zx .i64 (y+1)=y+1:=Zq (by omega) (by omega);have o:=Zd3 y (by omega);have J:=Qj y;have L:=Jg y;have M:=J5 (y:=y+1) (z:=z) (by omega);have q:decide (Zgl y≤d-ydS y)=true:=by rw[VK];omega
  have F:=J5 (y:=1970) (z:=y) u;rw[yd0]at F;have G:Zx .i64 (d-ydS y-Zgl y)=d-ydS (y+1):=by rw[Zq (by omega) (by omega)];omega
  have H:=ZnQ d n z w h2 A C ks m (y+1) B r (by omega) (by omega);simp only[go_sem,simprocAttr,f371]at b;subst b;rw[Ze];simp only[go_sem,simprocAttr,E,o,q,G,H]
theorem ZmQ(y n:Int)(A:0≤y)(ks:List It):∀(f:Nat) (m r:Int) (B:Code),YP f371 2 B→0≤r→r<Zci f y m→r≤400→0≤m→m+f≤100 →
  RL K (.run 371 0 (.code B::.lp B (some ([0,2,3,4,5],[])) 1::.blk 2 1::ks) [(0,I n),(2,.ptr 0 0),(3,I r),(4,I y),(5,I m)] [.cells [I 0,I 0,I 0,I 0,I 0,I 0]]) =
  R K (.run 371 0 ks [(0,I n),(2,.ptr 0 0),(3,I (YW f y m r).2),(4,I y),(5,I (YW f y m r).1)] [.cells [I 0,I 0,I 0,I 0,I 0,I 0]])
 |0,m,r,B,b,C,e,_,_,_=>by simp only[Zci]at e;omega
 |f+1,m,r,B,b,C,e,o,E,J=>by
  have q:=b;simp only[Zci]at e;have D:=ZBA y m A;have F:=ZqC y m r C o;have G:Zx .i64 (m+1)=m+1:=Zq (by omega) (by omega);have L:=Q6 y m;by_cases h:mdS y m≤r
  ·have u:decide (mdS y m≤r)=true:=by simp[h]
   have H:=ZmQ y n A ks f (m+1) (r-mdS y m) B q (by omega) (by omega) (by omega) (by omega) (by omega);have w:YW (f+1) y m r=YW f y (m+1) (r-mdS y m):=by simp only[YW];rw[Vr h]
   rw[w];simp only[go_sem,simprocAttr,f371]at b;subst b;rw[Ze];simp only[go_sem,simprocAttr,D,F,G,u,H]
  have u:decide (mdS y m≤r)=false:=by simpa using h
  have w:YW (f+1) y m r=(m,r):=by simp only[YW];rw[Vm h]
  rw[w];simp only[go_sem,simprocAttr,f371]at b;subst b;rw[Ze];simp only[go_sem,simprocAttr,D,u]
theorem Zzg(n:Int)(b:0≤n)(u:n≤253402300799):R K (.call 371 [I n] [])=some (.agg ((Zqv n).reverse.map I),[]):=by
 have w:=JG b u;have hs:=ZbA (d:=n/86400) (by omega);have r:=Qj (Yu (n/86400));have A:=Jg (Yu (n/86400));have B:Zx .i64 (n.tdiv 86400)=n/86400:=by rw[td _ _ b];exact Zq (by omega) (by omega)
 have C:Zx .i64 ((ymS n).2+1)=(ymS n).2+1:=by have:=Q6 (Yu (n/86400)) (ymS n).1;exact Zq (by omega) (by omega)
 have D:n.tmod 60=n%86400%60:=by rw[tm _ _ b];omega
 have E:Zx .i64 (n.tdiv 60)=n/60:=by rw[td _ _ b];exact Zq (by omega) (by omega)
 have e:(n/60).tmod 60=n%86400%3600/60:=by rw[tm _ _ (by omega)];omega
 have m:Zx .i64 (n.tdiv 3600)=n/3600:=by rw[td _ _ b];exact Zq (by omega) (by omega)
 have o:(n/3600).tmod 24=n%86400/3600:=by rw[tm _ _ (by omega)];omega
 have F:YW 12 (Yu (n/86400)) 1 (n/86400-ydS (Yu (n/86400)))=ymS n:=rfl;have q:n/86400=n/86400-ydS 1970:=by rw[yd0];omega
 rw[Zxg];simp only[go_sem,simprocAttr,f371,B];have G:=ZnQ (n/86400) n (Yu (n/86400)) hs.2.1 hs.2.2 w.2.1 ⟨by omega,by omega⟩;rw[show((.int .i64 (n/86400)):AV)=I (n/86400-ydS 1970)from congrArg I q];rw[G _ (Yu (n/86400)-1970).toNat 1970 _ ?_ (by omega) (by omega)]
 ·simp only[go_sem,simprocAttr];rw[ZmQ (Yu (n/86400)) n (by omega) _ 12 1 _ _ ?_ (by omega) (by rw[Zjr];omega) (by omega) (by omega) (by omega),F]
  ·simp only[go_sem,simprocAttr,C,D,E,e,m,o];rfl
  rfl
 rfl
theorem ZnS(y m h mi s base:Int)(u:1970≤y)(w:y≤9999)(A:0≤base∧base≤100)(ks:List It):∀(j:Nat) (k:Int) (B:Code),YP f348 0 B→k+j=y→1970≤k →
  RL K (.run 348 0 (.code B::.lp B (some ([0,1,3,4,5,12,13,14],[])) 1::.blk 0 1::ks) [(0,I y),(1,I m),(3,I h),(4,I mi),(5,I s),(12,.ptr 0 0),(13,I (base+ydS k)),(14,I k)] [.cells [I 0,I 0,.str []]]) =
  R K (.run 348 0 ks [(0,I y),(1,I m),(3,I h),(4,I mi),(5,I s),(12,.ptr 0 0),(13,I (base+ydS y))] [.cells [I 0,I 0,.str []]])
 |0,k,B,b,C,r=>by
  have e:k=y:=by omega
  subst e;have o:decide (k<k)=false:=by simp
  simp only[go_sem,simprocAttr,f348]at b;subst b;rw[Ze];simp only[go_sem,simprocAttr,o]
 |j+1,k,B,b,C,r=>by
  have q:=b;have o:decide (k<y)=true:=by rw[VK];omega
  have D:=Zd3 k (by omega);have E:Zx .i64 (k+1)=k+1:=Zq (by omega) (by omega);have J:=Qj k;have L:=Jg k;have M:=Zw8 (y:=k) (by omega);have F:=J5 (y:=1970) (z:=k) r;rw[yd0]at F;have G:Zx .i64 (base+ydS k+Zgl k)=base+ydS (k+1):=by rw[Zq (by omega) (by omega)];omega
  have H:=ZnS y m h mi s base u w A ks j (k+1) B q (by omega) (by omega);simp only[go_sem,simprocAttr,f348]at b;subst b;rw[Ze];simp only[go_sem,simprocAttr,o,D,E,G,H]
theorem Zoz(y m h mi s base:Int)(w:0≤y)(e:1≤m)(o:m≤12)(A:0≤base∧base≤3000000)(ks:List It):∀(j k:Nat) (B:Code),YP f348 2 B→((k+j+1:Nat):Int)=m →
  RL K (.run 348 0 (.code B::.lp B (some ([0,1,3,4,5,12,13,15],[])) 1::.blk 2 1::ks) [(0,I y),(1,I m),(3,I h),(4,I mi),(5,I s),(12,.ptr 0 0),(13,I (base+XH k y)),(15,I ((k+1:Nat):Int))] [.cells [I 0,I 0,.str []]]) =
  R K (.run 348 0 ks [(3,I h),(4,I mi),(5,I s),(12,.ptr 0 0),(13,I (base+XH (m-1).toNat y))] [.cells [I 0,I 0,.str []]])
 |0,k,B,b,C=>by
  have q:decide (((k+1:Nat):Int)<m)=false:=by simp;omega
  have r:(m-1).toNat=k:=by omega
  rw[r];simp only[go_sem,simprocAttr,f348]at b;subst b;rw[Ze];simp only[go_sem,simprocAttr,q]
 |j+1,k,B,b,C=>by
  have u:=b;have q:decide (((k+1:Nat):Int)<m)=true:=by rw[VK];omega
  have r:=ZBA y ((k+1:Nat):Int) w;have D:Zx .i64 (((k+1:Nat):Int)+1)=((k+1+1:Nat):Int):=ZQ (i:=k+1) (n:=1000) (by omega) (by omega);have G:=QH y k;have H:=Q6 y ((k+1:Nat):Int);have E:Zx .i64 (base+XH k y+mdS y ((k+1:Nat):Int))=base+XH (k+1) y:=by rw[Zq (by omega) (by omega)];simp only[XH];omega
  have F:=Zoz y m h mi s base w e o A ks j (k+1) B u (by omega);simp only[go_sem,simprocAttr,f348]at b;subst b;rw[Ze];simp only[go_sem,simprocAttr,q,r,D,E,F]
theorem Zy1(y m d h mi s:Int):R K (.call 348 [I y,I m,I d,I h,I mi,I s] [])=some (enc (Xt y m d h mi s),[]):=by
 by_cases b:¬(1970≤y∧y≤9999)
 ·rw[Wp (by omega)];have w:=XL b;rw[ZaJ];simp only[go_sem,simprocAttr,f348,YJ,w];rfl
 have b:=UK.1 b;have o:=(WY y 1970 9999).2 b;by_cases e:¬(1≤m∧m≤12)
 ·rw[Wp (by omega)];have w:=XL e;rw[ZaJ];simp only[go_sem,simprocAttr,f348,YJ,o,w];rfl
 have e:=UK.1 e;have r:=(WY m 1 12).2 e;have u:=ZBA y m (by omega);by_cases q:¬(1≤d∧d≤mdS y m)
 ·rw[Wp (by omega)];have w:=XL q;rw[ZaJ];simp only[go_sem,simprocAttr,f348,YJ,o,r,u,w];rfl
 have q:=UK.1 q;have A:=(WY d 1 (mdS y m)).2 q;by_cases hh:¬(0≤h∧h≤23)
 ·rw[Wp (by omega)];have w:=XL hh;rw[ZaJ];simp only[go_sem,simprocAttr,f348,YJ,o,r,u,A,w];rfl
 have hh:=UK.1 hh;have D:=(WY h 0 23).2 hh;by_cases hi:¬(0≤mi∧mi≤59)
 ·rw[Wp (by omega)];have w:=XL hi;rw[ZaJ];simp only[go_sem,simprocAttr,f348,YJ,o,r,u,A,D,w];rfl
 have hi:=UK.1 hi;have G:=(WY mi 0 59).2 hi;by_cases hs:¬(0≤s∧s≤59)
 ·rw[Wp (by omega)];have w:=XL hs;rw[ZaJ];simp only[go_sem,simprocAttr,f348,YJ,o,r,u,A,D,G,w];rfl
 have hs:=UK.1 hs;have H:=(WY s 0 59).2 hs;have J:Xt y m d h mi s=Xf 4 (YX y m d*86400+h*3600+mi*60+s):=Vr ⟨b.1,b.2,e.1,e.2,q.1,q.2,hh.1,hh.2,hi.1,hi.2,hs.1,hs.2⟩;have L:=J5 (y:=1970) (z:=y) b.1;rw[yd0]at L;have Z:=Zw8 b.2;have en:=Qj y;have el:=Jg y;have em:=Q6 y m;have ea:=QH y (m-1).toNat;have M:Zx .i64 (d-1)=d-1+ydS 1970:=by rw[Zq (by omega) (by omega),yd0];omega
 have O:d-1+ydS y=d-1+ydS y+XH 0 y:=by simp[XH]
 have P:Zx .i64 ((d-1+ydS y+XH (m-1).toNat y)*24)=YX y m d*24:=by rw[Zq (by omega) (by omega)];unfold YX;omega
 have Q:Zx .i64 (YX y m d*24+h)=YX y m d*24+h:=Zq (by unfold YX;omega) (by unfold YX;omega);have S:Zx .i64 ((YX y m d*24+h)*60)=YX y m d*1440+h*60:=by rw[Zq (by unfold YX;omega) (by unfold YX;omega)];omega
 have U:Zx .i64 (YX y m d*1440+h*60+mi)=YX y m d*1440+h*60+mi:=Zq (by unfold YX;omega) (by unfold YX;omega);have E:Zx .i64 ((YX y m d*1440+h*60+mi)*60)=YX y m d*86400+h*3600+mi*60:=by rw[Zq (by unfold YX;omega) (by unfold YX;omega)];omega
 have F:Zx .i64 (YX y m d*86400+h*3600+mi*60+s)=YX y m d*86400+h*3600+mi*60+s:=Zq (by unfold YX;omega) (by unfold YX;omega);rw[J];rw[ZaJ];simp only[go_sem,simprocAttr,f348,YJ,o,r,u,A,D,G,H,M];have W:=ZnS y m h mi s (d-1) b.1 b.2 ⟨by omega,by omega⟩;rw[W _ (y-1970).toNat 1970 _ ?_ (by omega) (by omega)]
 ·simp only[go_sem,simprocAttr];rw[O];have C:=Zoz y m h mi s (d-1+ydS y) (by omega) e.1 e.2 ⟨by omega,by omega⟩;have C:=fun ks B Y=>C ks (m-1).toNat 0 B Y (by omega);rw[show((0+1:Nat):Int)=1 from rfl]at C;rw[C _ _ ?_]
  ·simp only[go_sem,simprocAttr,P,Q,S,U,E,F,ZnL]
  rfl
 rfl
theorem Zbz(n:Int)(d:Nat)(r:0≤n)(u:n≤1000000)(w:d≤100):R K (.call 372 [I n,I (d:Int)] [])=some (.str (Zdz n d),[]):=by
 have A:=Lib.itoa_length_le n (by omega) (by omega);have b:=Zlm n (by omega) (by omega);have e:Zx .i64 ((d:Int)-((Lib.itoa n).length:Int))=(d:Int)-((Lib.itoa n).length:Int):=Zq (by omega) (by omega);have m:(if(d:Int)-((Lib.itoa n).length:Int)<0 then 0 else(d:Int)-((Lib.itoa n).length:Int))=((d-(Lib.itoa n).length:Nat):Int):=by split<;>omega
 have o:=ZeU [48] (d-(Lib.itoa n).length) (by omega) (by simp);have q:((Lib.repeatL [48] (d-(Lib.itoa n).length)).length+(Lib.itoa n).length≤Xa)=True:=by rw[Lib.repeatL_length];unfold Xa;simp;omega
 rw[Zwl];simp only[go_sem,simprocAttr,f372,b,e,m,o,q];rfl
theorem Zep(n:Int)(b:0≤n)(e:n≤253402300799):R K (.call 344 [I n] [])=some (.str (XJ n),[]):=by have H:=JG b e;have J:=Q6 (Yu (n/86400)) (ymS n).1;have m:=Zzg n b e;simp only[Zqv,List.reverse_cons,List.reverse_nil,Vi,Vl,Vz,VO]at m;have o:=Zbz (Yu (n/86400)) 4 (by omega) (by omega) (by omega);have q:=Zbz (ymS n).1 2 (by omega) (by omega) (by omega);have r:=Zbz ((ymS n).2+1) 2 (by omega) (by omega) (by omega);have u:=Zbz (n%86400/3600) 2 (by omega) (by omega) (by omega);have w:=Zbz (n%86400%3600/60) 2 (by omega) (by omega) (by omega);have A:=Zbz (n%86400%60) 2 (by omega) (by omega) (by omega);simp only[PE]at o q r u w A;obtain⟨B,C,D,E,F,G⟩:=Zgc b e;rw[ZuR];simp only[go_sem,simprocAttr,f344,m,o,q,r,u,w,A,B,C,D,E,F,G,Zdj];rfl
theorem Zyk(k n:Int)(s:List UInt8):R K (.call 313 [V k n s] [])=some (.str (YU ⟨k,n,s⟩),[]):=by
 generalize q:(⟨k,n,s⟩:Val)=v;have m:=ZeK k n s;rw[q]at m;rcases ZgI v with h|h|h|h|h
 ·have e:YU v=ZkG:=by simp[YU,h]
  rw[e];rw[Zcs];simp only[go_sem,simprocAttr,f313,m,h]
 ·have e:YU v=Lib.formatBool ((Zo v).n==1):=by simp[YU,h]
  rw[e];have b:=Zs9 ((Zo v).n==1);rw[Zcs];simp only[go_sem,simprocAttr,f313,m,h,b]
 ·have e:YU v=Lib.itoa (Zo v).n:=by simp[YU,h]
  rw[e];have b:=Ze6 v;have hi:=Zlm (Zo v).n (by have:=b.2.1;omega) (by have:=b.2.1;omega);rw[Zcs];simp only[go_sem,simprocAttr,f313,m,h,hi]
 ·have e:YU v=[39]++Lib.replaceAll (Zo v).s [39] [39,39]++[39]:=by simp[YU,h]
  rw[e];have o:=(ZlI v h).1;have r:=Zdk (Zo v).s [39] [39,39] (by omega) (by simp) (by simp;omega);have u:=ZgT (Zo v).s [39] [39,39];simp only[VC,VI]at u;have w:=Ja 1 (Lib.replaceAll (Zo v).s [39] [39,39]).length (by omega);have C:=Ja (Lib.replaceAll (Zo v).s [39] [39,39]).length 1 (by omega);have A:=Ja ((Lib.replaceAll (Zo v).s [39] [39,39]).length+1) 1 (by omega);rw[Zcs];simp only[go_sem,simprocAttr,f313,m,h,r,w,A]
 have e:YU v=[64]++XJ (Zo v).n:=by simp[YU,h]
 rw[e];have b:=Zcd h;have B:=Zep (Zo v).n b.1 b.2;have o:=Zkv b.1 b.2;rw[Zcs];simp only[go_sem,simprocAttr,f313,m,h,B,o,Zdj]
set_option maxHeartbeats 4000000 in
theorem ZlW(s:List UInt8):∃w b,R K (.call 316 [.str s] [])=some (.tup [enc w,.bool b],[])∧b=decide ((Z3 s).k=4)∧(b=true→w=Z3 s):=by
 by_cases hs:s.length=19
 rotate_left
 ·have e:Z3 s=null:=Vm hs;have L:(((s.length:Nat):Int) != 19)=true:=by simpa using(fun h=>hs (by omega):¬((s.length:Nat):Int)=19)
  refine⟨null,false,?_,by rw[e];rfl,fun h=>by simp at h⟩;rw[Qd];simp only[go_sem,simprocAttr,f316,L];rfl
 have Y:((s.length:Nat):Int)=19:=by omega
 have lt:∀(k:Nat) (l:List UInt8),(List.take k l).length≤281474976710656∨281474976710656<k:=fun k l=>by
  rcases Sc 281474976710656 k with h|h
  ·exact .inr h
  exact .inl (Uu (List.length_take_le _ _) h)
 cases M:Yi (List.take 4 s)with
 |none =>
  have e:=JP (s:=s) (.inl M);obtain⟨z,a0⟩:=Xj (List.take 4 s) ((lt _ _).resolve_right (by omega)) M;refine⟨null,false,?_,by rw[e];rfl,fun h=>by simp at h⟩;rw[Qd];simp only[go_sem,simprocAttr,f316,hs];rw[Ze];simp only[go_sem,simprocAttr,hs,at?,a0];rfl
 |some m =>
  have a0:=Xh (List.take 4 s) m ((lt _ _).resolve_right (by omega)) M;cases O:Yi (List.take 2 (List.drop 5 s))with
  |none =>
   have e:=JP (s:=s) (.inr (.inl O));obtain⟨z,B⟩:=Xj (List.take 2 (List.drop 5 s)) ((lt _ _).resolve_right (by omega)) O;refine⟨null,false,?_,by rw[e];rfl,fun h=>by simp at h⟩;rw[Qd];simp only[go_sem,simprocAttr,f316,hs];rw[Ze];simp only[go_sem,simprocAttr,hs,at?,ZC,a0];rw[Ze];simp only[go_sem,simprocAttr,hs,at?,B];rfl
  |some o =>
   have B:=Xh (List.take 2 (List.drop 5 s)) o ((lt _ _).resolve_right (by omega)) O;cases h2:Yi (List.take 2 (List.drop 8 s))with
   |none =>
    have e:=JP (s:=s) (.inr (.inr (.inl h2)));obtain⟨z,C⟩:=Xj (List.take 2 (List.drop 8 s)) ((lt _ _).resolve_right (by omega)) h2;refine⟨null,false,?_,by rw[e];rfl,fun h=>by simp at h⟩;rw[Qd];simp only[go_sem,simprocAttr,f316,hs];rw[Ze];simp only[go_sem,simprocAttr,hs,at?,ZC,a0];rw[Ze];simp only[go_sem,simprocAttr,hs,at?,ZC,B];rw[Ze];simp only[go_sem,simprocAttr,hs,at?,C];rfl
   |some q =>
    have C:=Xh (List.take 2 (List.drop 8 s)) q ((lt _ _).resolve_right (by omega)) h2;cases h3:Yi (List.take 2 (List.drop 11 s))with
    |none =>
     have e:=JP (s:=s) (.inr (.inr (.inr (.inl h3))));obtain⟨z,D⟩:=Xj (List.take 2 (List.drop 11 s)) ((lt _ _).resolve_right (by omega)) h3;refine⟨null,false,?_,by rw[e];rfl,fun h=>by simp at h⟩;rw[Qd];simp only[go_sem,simprocAttr,f316,hs];rw[Ze];simp only[go_sem,simprocAttr,hs,at?,ZC,a0];rw[Ze];simp only[go_sem,simprocAttr,hs,at?,ZC,B];rw[Ze];simp only[go_sem,simprocAttr,hs,at?,ZC,C];rw[Ze];simp only[go_sem,simprocAttr,hs,at?,D];rfl
    |some r =>
     have D:=Xh (List.take 2 (List.drop 11 s)) r ((lt _ _).resolve_right (by omega)) h3;cases P:Yi (List.take 2 (List.drop 14 s))with
     |none =>
      have e:=JP (s:=s) (.inr (.inr (.inr (.inr (.inl P)))));obtain⟨z,F⟩:=Xj (List.take 2 (List.drop 14 s)) ((lt _ _).resolve_right (by omega)) P;refine⟨null,false,?_,by rw[e];rfl,fun h=>by simp at h⟩;rw[Qd];simp only[go_sem,simprocAttr,f316,hs];rw[Ze];simp only[go_sem,simprocAttr,hs,at?,ZC,a0];rw[Ze];simp only[go_sem,simprocAttr,hs,at?,ZC,B];rw[Ze];simp only[go_sem,simprocAttr,hs,at?,ZC,C];rw[Ze];simp only[go_sem,simprocAttr,hs,at?,ZC,D];rw[Ze];simp only[go_sem,simprocAttr,hs,at?,F];rfl
     |some u =>
      have F:=Xh (List.take 2 (List.drop 14 s)) u ((lt _ _).resolve_right (by omega)) P;cases Q:Yi (List.take 2 (List.drop 17 s))with
      |none =>
       have e:=JP (s:=s) (.inr (.inr (.inr (.inr (.inr Q)))));obtain⟨z,G⟩:=Xj (List.take 2 (List.drop 17 s)) ((lt _ _).resolve_right (by omega)) Q;refine⟨null,false,?_,by rw[e];rfl,fun h=>by simp at h⟩;rw[Qd];simp only[go_sem,simprocAttr,f316,hs];rw[Ze];simp only[go_sem,simprocAttr,hs,at?,ZC,a0];rw[Ze];simp only[go_sem,simprocAttr,hs,at?,ZC,B];rw[Ze];simp only[go_sem,simprocAttr,hs,at?,ZC,C];rw[Ze];simp only[go_sem,simprocAttr,hs,at?,ZC,D];rw[Ze];simp only[go_sem,simprocAttr,hs,at?,ZC,F];rw[Ze];simp only[go_sem,simprocAttr,hs,at?,G];rfl
      |some n5 =>
       have G:=Xh (List.take 2 (List.drop 17 s)) n5 ((lt _ _).resolve_right (by omega)) Q;have H:=ZqS M O h2 h3 P Q;have A:Z3 s=if(Xt m o q r u n5).k=0∨XJ (Xt m o q r u n5).n≠s then null else Xt m o q r u n5:=by unfold Z3;rw[Vr hs,H]
       have S:=Zy1 m o q r u n5;rcases ZdX m o q r u n5 with Z|⟨J,a6,hr⟩
       ·rw[Z]at A S;have A:Z3 s=null:=by rw[A];rfl
        refine⟨null,false,?_,by rw[A];rfl,fun h=>by simp at h⟩;have kn:null.k=0:=rfl;rw[Qd];simp only[go_sem,simprocAttr,f316,hs];rw[Ze];simp only[go_sem,simprocAttr,hs,at?,ZC,a0];rw[Ze];simp only[go_sem,simprocAttr,hs,at?,ZC,B];rw[Ze];simp only[go_sem,simprocAttr,hs,at?,ZC,C];rw[Ze];simp only[go_sem,simprocAttr,hs,at?,ZC,D];rw[Ze];simp only[go_sem,simprocAttr,hs,at?,ZC,F];rw[Ze];simp only[go_sem,simprocAttr,hs,at?,ZC,G];rw[Ze];simp only[go_sem,simprocAttr,at?,S,kn]
        all_goals rfl
       have L:=J8 J hr;have W:=Zep (Xt m o q r u n5).n L.1 L.2;by_cases U:XJ (Xt m o q r u n5).n=s
       ·have A:Z3 s=Xt m o q r u n5:=by rw[A,Vm (fun h=>h.elim (fun h=>by rw[J]at h;simp at h) (fun h=>h U))]
        have E:(XJ (Xt m o q r u n5).n==s)=true:=by simp[U]
        refine⟨Xt m o q r u n5,true,?_,by rw[A,J];rfl,fun _=>A.symm⟩;rw[Qd];simp only[go_sem,simprocAttr,f316,hs];rw[Ze];simp only[go_sem,simprocAttr,hs,at?,ZC,a0];rw[Ze];simp only[go_sem,simprocAttr,hs,at?,ZC,B];rw[Ze];simp only[go_sem,simprocAttr,hs,at?,ZC,C];rw[Ze];simp only[go_sem,simprocAttr,hs,at?,ZC,D];rw[Ze];simp only[go_sem,simprocAttr,hs,at?,ZC,F];rw[Ze];simp only[go_sem,simprocAttr,hs,at?,ZC,G];rw[Ze];simp only[go_sem,simprocAttr,at?,S,J,W,E]
       have A:Z3 s=null:=by rw[A,Vr (.inr U)]
       have E:(XJ (Xt m o q r u n5).n==s)=false:=by simpa using U
       refine⟨Xt m o q r u n5,false,?_,by rw[A];rfl,fun h=>by simp at h⟩;rw[Qd];simp only[go_sem,simprocAttr,f316,hs];rw[Ze];simp only[go_sem,simprocAttr,hs,at?,ZC,a0];rw[Ze];simp only[go_sem,simprocAttr,hs,at?,ZC,B];rw[Ze];simp only[go_sem,simprocAttr,hs,at?,ZC,C];rw[Ze];simp only[go_sem,simprocAttr,hs,at?,ZC,D];rw[Ze];simp only[go_sem,simprocAttr,hs,at?,ZC,F];rw[Ze];simp only[go_sem,simprocAttr,hs,at?,ZC,G];rw[Ze];simp only[go_sem,simprocAttr,at?,S,J,W,E]
theorem ZeD(s p:List UInt8):R K (.call 312 [.str s,.str p] [])=some (.str (Lib.trimPrefix s p),[]):=Qn rfl
theorem ZjR(a b:Int):R K (.call 234 [I a,I b] [])=some (.bool (Zej a b),[]):=by
 rw[ZtH];simp only[go_sem,simprocAttr,f234,YJ]
 repeat' ((first|apply ZG|apply ZK|apply ZT)<;>intro e<;>simp only[e,go_sem,simprocAttr,YJ])
 all_goals simp_all[Zej]
def Zzw(rows:List (List AV))(r:AV×Za):Prop:=r=(.lit rows,[])∨r=(.own 0 rows.length,[.rows 3 rows true])
set_option maxHeartbeats 8000000 in
theorem Zfm(s:List UInt8)(hs:s.length≤10000000):∃r,R K (.call 237 [.str s] [])=some r∧Zzw ((YK s).map Ql) r:=by
 obtain⟨w,b,B,Z,hw⟩:=ZlW (Lib.trimPrefix s [64]);have C:=ZeD s [64];have hd:(if(Z3 (Lib.trimPrefix s [64])).k=4 then[Z3 (Lib.trimPrefix s [64])]else[])=if b=true then[w]else[]:=by
  cases b with
  |true=>rw[Vr (by simpa using Z.symm),Vr rfl,hw rfl]
  |false=>rw[Vm (by simpa using Z.symm),Vm (by simp)]
 have key:∀(q:Bool),(q=true↔(1<s.length∧s[0]?=some 39))→∀(X:List Val),(match Yi s with|some n=>[Xf 2 n]|none=>[])=X →
   ∃r,R K (.call 237 [.str s] [])=some r∧Zzw (([null,X7 true,X7 false]++X++(if q=true then[JE (Lib.replaceAll (cut s 1 (s.length-1)) [39,39] [39])]else[])++(if b=true then[w]else[])).map Ql) r:=by
  intro q J X S;have U:(1:Int).toNat=1:=rfl;have W:=Zdk (List.take (s.length-1-1) (List.drop 1 s)) [39,39] [39] (by simp;omega) (by simp) (by simp;omega);have L:1<s.length→Zx .i64 ((s.length:Int)-1)=((s.length-1:Nat):Int):=fun h=>by rw[Zq (by omega) (by omega)];omega
  cases Y:Yi s with
  |none =>
   rw[Y]at S;subst S;obtain⟨z,a⟩:=Xj s (by omega) Y;by_cases F:1<s.length
   ·have u:decide ((1:Int)<(s.length:Int))=true:=by rw[VK];omega
    obtain⟨c,G⟩:=Zu (l:=s) (i:=0) (by omega);have E:at? s 0=some c:=WO G;by_cases o:c=39
    ·have m:(c==39)=true:=by simp[o]
     have D:=L F;have M:((1:Int)≤(s.length:Int))=True:=V5 (by omega);have O:((0:Int)≤((s.length-1:Nat):Int))=True:=V5 (by omega);have P:(((s.length-1:Nat):Int)≤(s.length:Int))=True:=V5 (by omega);have Q:((1:Int)≤((s.length-1:Nat):Int))=True:=V5 (by omega);have H:q=true:=J.2 ⟨F,by rw[G,o]⟩;subst H;cases b with
     |true =>
      refine⟨_,?_,.inr rfl⟩;rw[Wl];simp only[go_sem,simprocAttr,f237,ZC,a,u,E,Zcg,m,D,M,O,P,Q,U,Vk,W,C,B,WX,ZhR]
      all_goals rfl
     |false =>
      refine⟨_,?_,.inr rfl⟩;rw[Wl];simp only[go_sem,simprocAttr,f237,ZC,a,u,E,Zcg,m,D,M,O,P,Q,U,Vk,W,C,B,WX,ZhR]
      all_goals rfl
    have m:(c==39)=false:=by simpa using o
    have A:q=false:=by rw[Uk];intro e;have:=(J.1 e).2;rw[G]at this;exact o (Ux this)
    subst A;cases b with
    |true =>
     refine⟨_,?_,.inr rfl⟩;rw[Wl];simp only[go_sem,simprocAttr,f237,ZC,a,u,E,Zcg,m,C,B,WX]
     all_goals rfl
    |false =>
     refine⟨_,?_,.inl rfl⟩;rw[Wl];simp only[go_sem,simprocAttr,f237,a,u,E,Zcg,m,C,B,WX]
     all_goals rfl
   have u:decide ((1:Int)<(s.length:Int))=false:=by simp;omega
   have A:q=false:=by rw[Uk];intro e;exact F (J.1 e).1
   subst A;cases b with
   |true =>
    refine⟨_,?_,.inr rfl⟩;rw[Wl];simp only[go_sem,simprocAttr,f237,ZC,a,u,C,B,WX]
    all_goals rfl
   |false =>
    refine⟨_,?_,.inl rfl⟩;rw[Wl];simp only[go_sem,simprocAttr,f237,a,u,C,B,WX]
    all_goals rfl
  |some n =>
   rw[Y]at S;subst S;have a:=Xh s n (by omega) Y;by_cases F:1<s.length
   ·have u:decide ((1:Int)<(s.length:Int))=true:=by rw[VK];omega
    obtain⟨c,G⟩:=Zu (l:=s) (i:=0) (by omega);have E:at? s 0=some c:=WO G;by_cases o:c=39
    ·have m:(c==39)=true:=by simp[o]
     have D:=L F;have M:((1:Int)≤(s.length:Int))=True:=V5 (by omega);have O:((0:Int)≤((s.length-1:Nat):Int))=True:=V5 (by omega);have P:(((s.length-1:Nat):Int)≤(s.length:Int))=True:=V5 (by omega);have Q:((1:Int)≤((s.length-1:Nat):Int))=True:=V5 (by omega);have H:q=true:=J.2 ⟨F,by rw[G,o]⟩;subst H;cases b with
     |true =>
      refine⟨_,?_,.inr rfl⟩;rw[Wl];simp only[go_sem,simprocAttr,f237,ZC,a,u,E,Zcg,m,D,M,O,P,Q,U,Vk,W,C,B,WX,ZhR,ZaQ]
      all_goals rfl
     |false =>
      refine⟨_,?_,.inr rfl⟩;rw[Wl];simp only[go_sem,simprocAttr,f237,ZC,a,u,E,Zcg,m,D,M,O,P,Q,U,Vk,W,C,B,WX,ZhR,ZaQ]
      all_goals rfl
    have m:(c==39)=false:=by simpa using o
    have A:q=false:=by rw[Uk];intro e;have:=(J.1 e).2;rw[G]at this;exact o (Ux this)
    subst A;cases b with
    |true =>
     refine⟨_,?_,.inr rfl⟩;rw[Wl];simp only[go_sem,simprocAttr,f237,ZC,a,u,E,Zcg,m,C,B,WX,ZaQ]
     all_goals rfl
    |false =>
     refine⟨_,?_,.inr rfl⟩;rw[Wl];simp only[go_sem,simprocAttr,f237,ZC,a,u,E,Zcg,m,C,B,WX,ZaQ]
     all_goals rfl
   have u:decide ((1:Int)<(s.length:Int))=false:=by simp;omega
   have A:q=false:=by rw[Uk];intro e;exact F (J.1 e).1
   subst A;cases b with
   |true =>
    refine⟨_,?_,.inr rfl⟩;rw[Wl];simp only[go_sem,simprocAttr,f237,ZC,a,u,C,B,WX,ZaQ]
    all_goals rfl
   |false =>
    refine⟨_,?_,.inr rfl⟩;rw[Wl];simp only[go_sem,simprocAttr,f237,ZC,a,u,C,B,WX,ZaQ]
    all_goals rfl
 have e:YK s=[null,X7 true,X7 false]++(match Yi s with|some n=>[Xf 2 n]|none=>[])++(if decide (1<s.length∧s[0]?=some 39)=true then[JE (Lib.replaceAll (cut s 1 (s.length-1)) [39,39] [39])]else[])++(if b=true then[w]else[]):=by unfold YK;rw[hd];simp only[VK]<;>cases Yi s<;>rfl
 rw[e];exact key _ (by rw[VK]) _ rfl
theorem ZqX(p:Prop)[Decidable p](x:α):(if p then[x]else[]).length≤1:=by split<;>simp
theorem Zkw(s:List UInt8):(YK s).length≤6:=by
 unfold YK;simp only[Vu,VC,VI];have h2:=ZqX (1<s.length∧s[0]?=some 39) (JE (Lib.replaceAll (cut s 1 (s.length-1)) [39,39] [39]));have h3:=ZqX ((Z3 (Lib.trimPrefix s [64])).k=4) (Z3 (Lib.trimPrefix s [64]));cases Yi s with
 |none=>simp only[VI];omega
 |some n=>simp only[VC,VI];omega
theorem Zit(v:Val):R K (.call 236 [V v.k v.n v.s] [])=some (enc (Y3 v),[]):=by
 have b:=Zyk v.k v.n v.s;rw[Val.eta]at b;by_cases h:v.k=3
 ·have e:Y3 v=v:=Vr h;rw[e];rw[ZnR];simp only[go_sem,simprocAttr,f236,h]
 have e:Y3 v=JE (Lib.trimPrefix (YU v) [64]):=Vm h;have m:(v.k==3)=false:=by simpa using h
 rw[e];rw[ZnR];simp only[go_sem,simprocAttr,f236,m,b,ZeD,ZhR]
theorem ZBl(u v:Val):((u.k==v.k)&&((u.n==v.n)&&(u.s==v.s)))=decide (u=v):=by
 rw[UE];simp only[VA,Up,VK];constructor
 ·rintro⟨b,h2,h3⟩;cases u;cases v;simp_all
 rintro rfl;exact⟨rfl,rfl,rfl⟩
@[go_sem]theorem Zpi:∀l:List Val,Zz (l.map Ql)=[]
 |[]=>rfl
 |v::l=>by simpa[Ql,Zz,Zg,locs]using Zpi l
set_option maxHeartbeats 4000000 in
theorem ZcF(w:Val)(kind:Int)(rows more:List Val)(W:rows.length≤1000)(A:Nat)(H:Za)(b:Nat)
  (L:(A=2∧H=[.cells [I w.k,I w.n,.str w.s],.cells [I 0,I 0,.str []],.rows 3 (rows.map Ql) true]∧b=3)∨(A=3∧H=[.cells [I w.k,I w.n,.str w.s],.cells [I 0,I 0,.str []],.rows 3 (more.map Ql) true,.rows 3 (rows.map Ql) true]∧b=4)∨(A=2∧H=[.cells [I w.k,I w.n,.str w.s],.cells [I 0,I 0,.str []],.rows 3 (rows.map Ql) true,.rows 3 (more.map Ql) true]∧b=4)) (ks:List It):∀(m i:Nat) (j:Int) (B:Code),YP f139 1 B→j=(i:Int)→rows.length=i+m →
  RL K (.run 139 0 (.code B::.lp B (some ([1,2,4,43,44,45],[])) b::.blk 1 b::ks) [(1,I kind),(2,.ptr 0 0),(4,.ptr 1 0),(43,.own A rows.length),(44,I (rows.length:Int)),(45,I j)] H) =
  match(rows.drop i).find? (ZaP w kind)with
  |some v=>some (enc v,[])
  |none=>R K (.run 139 0 ks [(4,.ptr 1 0)] (H.take b))
 |0,i,j,B,e,M,Y=>by
  subst M;have r:decide ((i:Int)<(rows.length:Int))=false:=by simp;omega
  rw[V2 (by omega)];rcases L with⟨rfl,rfl,rfl⟩|⟨rfl,rfl,rfl⟩|⟨rfl,rfl,rfl⟩
  ·simp only[go_sem,simprocAttr,f139]at e;subst e;rw[Ze];simp only[go_sem,simprocAttr,r];rfl
  ·simp only[go_sem,simprocAttr,f139]at e;subst e;rw[Ze];simp only[go_sem,simprocAttr,r];rfl
  simp only[go_sem,simprocAttr,f139]at e;subst e;rw[Ze];simp only[go_sem,simprocAttr,r];rfl
 |m+1,i,j,B,e,M,Y=>by
  subst M;have O:=e;have r:decide ((i:Int)<(rows.length:Int))=true:=by rw[VK];omega
  obtain⟨v,P⟩:=Zu (l:=rows) (i:=i) (by omega);have F:=Zzt P;have o:(rows.map Ql)[i]?=some (Ql v):=by simp[P]
  have G:=ZQ (i:=i) (n:=rows.length) (by omega) (by omega);have u:=Zit v;rw[Y8 P];have J:=ZcF w kind rows more W A H b L ks m (i+1) _ B O rfl (by omega);have D:ZaP w kind v=((v.k==kind)&&(((Y3 v).k==w.k)&&(((Y3 v).n==w.n)&&((Y3 v).s==w.s)))):=by unfold ZaP;rw[ZBl]
  cases C:v.k==kind with
  |false =>
   have E:ZaP w kind v=false:=by rw[D,C];rfl
   rcases L with⟨rfl,rfl,rfl⟩|⟨rfl,rfl,rfl⟩|⟨rfl,rfl,rfl⟩
   ·simp only[go_sem,simprocAttr,f139]at e;subst e;rw[Ze];simp only[go_sem,simprocAttr,r,F,o,Ql,C,G,Vk,Vd];rw[J];simp only[Sf,E];cases List.find? (ZaP w kind) (List.drop (i+1) rows)<;>rfl
   ·simp only[go_sem,simprocAttr,f139]at e;subst e;rw[Ze];simp only[go_sem,simprocAttr,r,F,o,Ql,C,G,Vk,Vd];rw[J];simp only[Sf,E];cases List.find? (ZaP w kind) (List.drop (i+1) rows)<;>rfl
   simp only[go_sem,simprocAttr,f139]at e;subst e;rw[Ze];simp only[go_sem,simprocAttr,r,F,o,Ql,C,G,Vk,Vd];rw[J];simp only[Sf,E];cases List.find? (ZaP w kind) (List.drop (i+1) rows)<;>rfl
  |true =>
   cases q:((Y3 v).k==w.k)&&(((Y3 v).n==w.n)&&((Y3 v).s==w.s))with
   |true =>
    have E:ZaP w kind v=true:=by rw[D,C,q];rfl
    simp only[VA]at q;obtain⟨Q,S,U⟩:=q;rcases L with⟨rfl,rfl,rfl⟩|⟨rfl,rfl,rfl⟩|⟨rfl,rfl,rfl⟩
    ·simp only[go_sem,simprocAttr,f139]at e;subst e;rw[Ze];simp only[go_sem,simprocAttr,r,F,o,Ql,C,u,Q,S,U,Vk,Vd];simp only[Sf,E]
     all_goals rfl
    ·simp only[go_sem,simprocAttr,f139]at e;subst e;rw[Ze];simp only[go_sem,simprocAttr,r,F,o,Ql,C,u,Q,S,U,Vk,Vd];simp only[Sf,E]
     all_goals rfl
    simp only[go_sem,simprocAttr,f139]at e;subst e;rw[Ze];simp only[go_sem,simprocAttr,r,F,o,Ql,C,u,Q,S,U,Vk,Vd];simp only[Sf,E]
    all_goals rfl
   |false =>
    have E:ZaP w kind v=false:=by rw[D,C,q];rfl
    rcases L with⟨rfl,rfl,rfl⟩|⟨rfl,rfl,rfl⟩|⟨rfl,rfl,rfl⟩
    ·simp only[go_sem,simprocAttr,f139]at e;subst e;rw[Ze];simp only[go_sem,simprocAttr,r,F,o,Ql,C,u,q,G,Vk,Vd];rw[J];simp only[Sf,E];cases List.find? (ZaP w kind) (List.drop (i+1) rows)<;>rfl
    ·simp only[go_sem,simprocAttr,f139]at e;subst e;rw[Ze];simp only[go_sem,simprocAttr,r,F,o,Ql,C,u,q,G,Vk,Vd];rw[J];simp only[Sf,E];cases List.find? (ZaP w kind) (List.drop (i+1) rows)<;>rfl
    simp only[go_sem,simprocAttr,f139]at e;subst e;rw[Ze];simp only[go_sem,simprocAttr,r,F,o,Ql,C,u,q,G,Vk,Vd];rw[J];simp only[Sf,E];cases List.find? (ZaP w kind) (List.drop (i+1) rows)<;>rfl
theorem Zd6:∀l:List Val,Y1 3 (l.map Ql)=true
 |[]=>rfl
 |v::r=>by simp only[Vz,Y1,Zd6 r,Ql,VC,VI];rfl
set_option maxHeartbeats 4000000 in
theorem Znl(k n:Int)(s:List UInt8)(kind:Int):R K (.call 139 [V k n s,I kind] [])=some (enc (Zhj ⟨k,n,s⟩ kind),[]):=by
 have A:=ZeK k n s;generalize hv:(⟨k,n,s⟩:Val)=a;rw[hv]at A;have a0:=WQ a;unfold Zhj;by_cases L:(Zo a).k=0
 ·rw[Vr (.inl L)];have B:((Zo a).k==0)=true:=by simp[L]
  rw[WI];simp only[go_sem,simprocAttr,f139,A,B]
  all_goals rfl
 have B:((Zo a).k==0)=false:=by simpa using L
 have b:=ZjR (Zo a).k kind;cases hc:Zej (Zo a).k kind with
 |false =>
  rw[hc]at b;rw[Vr (.inr rfl)];rw[WI];simp only[go_sem,simprocAttr,f139,A,B,b]
  all_goals rfl
 |true =>
  rw[hc]at b;rw[Vm (by simp[L])];by_cases M:(Zo a).k=kind
  ·have C:((Zo a).k==kind)=true:=by simp[M]
   rw[Vr M];rw[WI];simp only[go_sem,simprocAttr,f139,A,B,b,C]
   all_goals rfl
  have C:((Zo a).k==kind)=false:=by simpa using M
  rw[Vm M];by_cases h3:kind=3
  ·subst h3;rw[Vr rfl];have S:=Zit (Zo a);rw[WI];simp only[go_sem,simprocAttr,f139,A,B,b,C,S]
  have E:(kind==3)=false:=by simpa using h3
  rw[Vm h3];by_cases F:(Zo a).k=3
  ·rw[Vr F];have D:((Zo a).k==3)=true:=by simp[F]
   have a3:=(ZlI a F).1;obtain⟨r1,q,G⟩:=Zfm (Zo a).s (by omega);obtain⟨r2,r,H⟩:=Zfm (64::(Zo a).s) (by simp;omega);have U:=Zkw (Zo a).s;have W:=Zkw (64::(Zo a).s);have O:(1+(Zo a).s.length≤Xa)=True:=V5 (by unfold Xa;omega);have Y:3≤(YK (64::(Zo a).s)).length:=by unfold YK;simp only[Vu,VC,VI];omega
   rw[show[64]++(Zo a).s=64::(Zo a).s from rfl];generalize YK (Zo a).s=o at G U ⊢;generalize YK (64::(Zo a).s)=m at H W Y ⊢;have u:(o.map Ql).length=o.length:=Vd _;have w:(m.map Ql).length=m.length:=Vd _;have a1:Y1 3 (o.map Ql)=true:=Zd6 o;have P:Y1 3 (m.map Ql)=true:=Zd6 m;have g2:(0<m.length)=True:=V5 (by omega);have g3:∀x:Nat,((o.length+m.length)*(x+1)≤Zp)=((o.length+m.length)*(x+1)≤Zp):=fun _=>rfl;have Q:((o.length+m.length)*33≤Zp)=True:=V5 (by unfold Zp;omega);have e:(o++m).map Ql=o.map Ql++m.map Ql:=Ua;have J:(o++m).length=o.length+m.length:=Vu;have hn:((o.length:Int)+(m.length:Int))=(((o++m).length:Nat):Int):=by rw[J];omega
   rcases G with rfl|rfl<;>rcases H with rfl|rfl
   ·try simp only[u,w]at q r
    rw[WI];simp only[go_sem,simprocAttr,f139,A,B,b,C,E,D,q,r,O,g2,Q,u,w,a1,P];rw[←J,ZcF (Zo a) kind (o++m) m (by omega) 2 _ 3 (.inl ⟨rfl,by rw[e],rfl⟩) _ (o++m).length 0 0 _ ?_ rfl (by omega),Ui]
    ·cases(o++m).find? (ZaP (Zo a) kind)with
     |some v=>rfl
     |none =>
      simp only[UH,Pt];simp only[go_sem,simprocAttr]
      all_goals rfl
    rfl
   ·try simp only[w]at q r
    rw[WI];simp only[go_sem,simprocAttr,f139,A,B,b,C,E,D,q,r,O,g2,Q,u,w,a1,P];rw[←J,ZcF (Zo a) kind (o++m) m (by omega) 3 _ 4 (.inr (.inl ⟨rfl,by rw[e],rfl⟩)) _ (o++m).length 0 0 _ ?_ rfl (by omega),Ui]
    ·cases(o++m).find? (ZaP (Zo a) kind)with
     |some v=>rfl
     |none =>
      simp only[UH,Pt];simp only[go_sem,simprocAttr]
      all_goals rfl
    rfl
   ·try simp only[u]at q r
    rw[WI];simp only[go_sem,simprocAttr,f139,A,B,b,C,E,D,q,r,O,Q,u,w,P];rw[←J,ZcF (Zo a) kind (o++m) m (by omega) 2 _ 3 (.inl ⟨rfl,by rw[e],rfl⟩) _ (o++m).length 0 0 _ ?_ rfl (by omega),Ui]
    ·cases(o++m).find? (ZaP (Zo a) kind)with
     |some v=>rfl
     |none =>
      simp only[UH,Pt];simp only[go_sem,simprocAttr]
      all_goals rfl
    rfl
   try simp only[u,w]at q r
   rw[WI];simp only[go_sem,simprocAttr,f139,A,B,b,C,E,D,q,r,O,Q,u,w,P];rw[←J,ZcF (Zo a) kind (o++m) m (by omega) 2 _ 4 (.inr (.inr ⟨rfl,by rw[e],rfl⟩)) _ (o++m).length 0 0 _ ?_ rfl (by omega),Ui]
   ·cases(o++m).find? (ZaP (Zo a) kind)with
    |some v=>rfl
    |none =>
     simp only[UH,Pt];simp only[go_sem,simprocAttr]
     all_goals rfl
   rfl
  have D:((Zo a).k==3)=false:=by simpa using F
  rw[Vm F];by_cases Z:kind=1
  ·subst Z;rw[Vr rfl];rw[WI];simp only[go_sem,simprocAttr,f139,A,B,b,C,D,WX]
   all_goals rfl
  have b5:(kind==1)=false:=by simpa using Z
  rw[Vm Z];by_cases h6:kind=4
  ·subst h6;rw[Vr rfl];rw[WI];simp only[go_sem,simprocAttr,f139,A,B,b,C,D,ZnL]
  have b6:(kind==4)=false:=by simpa using h6
  rw[Vm h6];rw[WI];simp only[go_sem,simprocAttr,f139,A,B,b,C,E,D,b5,b6,ZaQ]
def Both{α β:Type}(R:α→β→Prop)(l:List α)(m:List β):Prop:=l.length=m.length∧∀(i:Nat) (a:α) (b:β),l[i]?=some a→m[i]?=some b→R a b
theorem Both.cons{β:Type}{R:α→β→Prop}{a:α}{b:β}{l:List α}{m:List β}:Both R (a::l) (b::m)↔R a b∧Both R l m:=by
 constructor
 ·rintro⟨q,h2⟩;refine⟨h2 0 a b rfl rfl,by simpa using q,fun i x y e o=>h2 (i+1) x y (by simpa using e) (by simpa using o)⟩
 rintro⟨r,q,h2⟩;refine⟨by simp[q],fun i x y e o=>?_⟩;cases i with
 |zero =>
  simp only[Vt,Va]at e o;subst e o;exact r
 |succ i=>exact h2 i x y (by simpa using e) (by simpa using o)
theorem Both.map{β γ:Type}{R:α→β→Prop}{f:γ→α}{g:γ→β}{l:List γ}(h:∀x∈l,R (f x) (g x)):Both R (l.map f) (l.map g):=by refine⟨by simp,fun i a b m o=>?_⟩;simp only[Vj,UT]at m o;obtain⟨x,q,rfl⟩:=m;obtain⟨y,e,rfl⟩:=o;rw[q]at e;simp only[Va]at e;subst e;exact h x (Ve q)
inductive Lst(h:Za):AV→List (List AV)→Prop
 |rows (rs:List (List AV)):Zz rs=[]→Zcm rs=false→Lst h (.rows rs) rs
 |own (l z n:Nat) (rs:List (List AV)) (wr:Bool):h[l]?=some (.rows z rs wr)→rs.length=n→Lst h (.own l n) rs
 |vw (l z n m:Nat) (rs more:List (List AV)) (wr:Bool):h[l]?=some (.rows z (rs++more) wr)→(rs++more).length=n→rs.length=m→Lst h (.vw l n 0 m) rs
theorem Lst.snap{h:Za}{rs b:List (List AV)}(r:Lst h a rs)(e:Z1 f rs=some b):ZH f h a=some (.rows b):=by
 cases r with
 |rows _ u h2 =>
  unfold Z1 at e;rw[Vr ⟨u,h2⟩]at e;simp only[Va]at e;subst e;rfl
 |own l z n _ wr hh o=>simp only[ZH,hh,o,V7,e]
 |vw l z n m _ more wr hh o w =>
  have A:cut (rs++more) 0 (0+m)=rs:=by unfold cut;rw[Ui,VZ,V4,←w,Pl]
  have q:0+m≤n:=by simp at o;omega
  simp only[ZH,hh,o,q,PQ,V7,A,e]
theorem Lst.pure{h:Za}{rs:List (List AV)}(b:Lst h a rs)(e:locs a=[]):a=.rows rs∧Zz rs=[]:=by
 cases b with
 |rows _ o _=>exact⟨rfl,o⟩
 |own l _ n _ _ _ _| vw l _ n m _ _ _ _ _ _=>simp[locs]at e
theorem Q4{R:List AV→α→Prop}{c:α→List AV}(r:∀row x,R row x→Yd row (f row)=some (c x))(h2:∀row x,R row x→Zg row=[]→row=c x):∀{rs:List (List AV)} {xs:List α},Both R rs xs→Z1 f rs=some (xs.map c)
 |rs,xs,b=>by
  have m:∀{rs:List (List AV)} {xs:List α},Both R rs xs→ZL f rs=some (xs.map c):=by
   intro rs
   induction rs with
   |nil =>
    intro xs b;have:xs=[]:=VS.1 (by simpa using b.1.symm);subst this;rfl
   |cons row rs o =>
    intro xs b;cases xs with
    |nil=>have:=b.1;simp at this
    |cons x xs =>
     obtain⟨h3,q⟩:=Both.cons.1 b;simp only[ZL,r row x h3,o q,Vz]
  unfold Z1;split
  ·rename_i u;have same:∀{rs:List (List AV)} {xs:List α},Both R rs xs→Zz rs=[]→rs=xs.map c:=by
    intro rs
    induction rs with
    |nil =>
     intro xs b _;have:xs=[]:=VS.1 (by simpa using b.1.symm);subst this;rfl
    |cons row rs o =>
     intro xs b e;cases xs with
     |nil=>have:=b.1;simp at this
     |cons x xs =>
      obtain⟨h3,q⟩:=Both.cons.1 b;have e:=Uy.1 (show Zg row++Zz rs=[]from e);rw[Vz,←h2 row x h3 e.1,←o q e.2]
   rw[same b u.1]
  exact m b
theorem Zd1:∀l:List (List UInt8),Zcm (SLs l)=false
 |[]=>rfl
 |_::l=>by simpa[SLs,Zcm,ZeX]using Zd1 l
theorem Zc2:∀l:List Col,Zcm (l.map Zh)=false
 |[]=>rfl
 |_::l=>by simpa[Zh,Zcm,ZeX]using Zc2 l
theorem Zvi(f:List AV→Option (List AV))(l:List (List UInt8)):Z1 f (SLs l)=some (SLs l):=Vr ⟨Zv l,Zd1 l⟩
theorem Zkm(f:List AV→Option (List AV))(l:List Col):Z1 f (l.map Zh)=some (l.map Zh):=Vr ⟨Zw l,Zc2 l⟩
theorem Lst.names{h:Za}{l:List (List UInt8)}(b:Lst h a (SLs l)):ZH f h a=some (.rows (SLs l)):=b.snap (Zvi f l)
def SeenF(h:Za)(row:List AV)(f:Fgn):Prop:=∃a,row=[.str f.nm,a,.str f.tb]∧Lst h a (SLs f.cols)
def SeenI(h:Za)(row:List AV)(f:Idx):Prop:=∃a,row=[.str f.nm,a,.bool f.uq]∧Lst h a (SLs f.cols)
theorem SeenF.ok{x:Fgn}(n:Nat)(s:SeenF h row x):Yd row (Zy (n+1) h row)=some (Z7 x):=by obtain⟨a,rfl,b⟩:=s;simp only[Zy,Zs,ZH,b.names,Yd,Z7,VC,VI,singles,single,Pc,PQ,V7]
theorem SeenI.ok{x:Idx}(n:Nat)(s:SeenI h row x):Yd row (Zy (n+1) h row)=some (Yq x):=by obtain⟨a,rfl,b⟩:=s;simp only[Zy,Zs,ZH,b.names,Yd,Yq,VC,VI,singles,single,Pc,PQ,V7]
theorem SeenF.pure{h:Za}{row:List AV}{x:Fgn}(s:SeenF h row x)(e:Zg row=[]):row=Z7 x:=by
 obtain⟨a,rfl,b⟩:=s;have e:locs a=[]:=by simpa[Zg,locs]using e
 rw[(b.pure e).1];rfl
theorem SeenI.pure{h:Za}{row:List AV}{x:Idx}(s:SeenI h row x)(e:Zg row=[]):row=Yq x:=by
 obtain⟨a,rfl,b⟩:=s;have e:locs a=[]:=by simpa[Zg,locs]using e
 rw[(b.pure e).1];rfl
def SeenT(h:Za)(row:List AV)(t:Tbl):Prop:=∃ca ka fa ia fr ir,row=[.str t.nm,ca,ka,fa,ia]∧Lst h ca (t.cols.map Zh)∧Lst h ka (SLs t.key)∧(Lst h fa fr∧Both (SeenF h) fr t.fgn)∧(Lst h ia ir∧Both (SeenI h) ir t.idx)
theorem SeenT.cells{t:Tbl}(n:Nat)(s:SeenT h row t):Zs (Zy (n+1) h) h row=some (Zc t):=by obtain⟨C,D,E,F,fr,G,rfl,b,h2,⟨h3,m⟩,o,q⟩:=s;have u:=b.snap (f:=Zy (n+1) h) (Zkm _ _);have w:=h2.names (f:=Zy (n+1) h);have A:=h3.snap (Q4 (f:=Zy (n+1) h) (fun _ _ r=>SeenF.ok n r) (fun _ _ r e=>SeenF.pure r e) m);have B:=o.snap (Q4 (f:=Zy (n+1) h) (fun _ _ r=>SeenI.ok n r) (fun _ _ r e=>SeenI.pure r e) q);simp only[Zs,ZH,u,w,A,B,Zc]
theorem SeenT.len{t:Tbl}(s:SeenT h row t):row.length=5:=by obtain⟨b,e,m,o,fr,q,rfl,_⟩:=s;rfl
theorem SeenT.ok{t:Tbl}(n:Nat)(s:SeenT h row t):Yd row (Zy (n+2) h row)=some (Zc t):=by have e:Zy (n+2) h row=some (Zc t):=s.cells n;rw[e];simp only[Yd,s.len];rfl
theorem SeenT.pure{h:Za}{row:List AV}{t:Tbl}(s:SeenT h row t)(e:Zg row=[]):row=Zc t:=by
 obtain⟨L,M,O,P,fr,q,rfl,u,h2,⟨h3,w⟩,b,A⟩:=s;simp only[Zg,locs,Vi,Vv,Uy]at e;obtain⟨B,C,D,E⟩:=e;have m:=h3.pure D;have o:=b.pure E;have F:=Q4 (f:=Zy 1 h) (fun _ _ r=>SeenF.ok 0 r) (fun _ _ r e=>SeenF.pure r e) w;have G:=Q4 (f:=Zy 1 h) (fun _ _ r=>SeenI.ok 0 r) (fun _ _ r e=>SeenI.pure r e) A;have H:fr=t.fgn.map Z7:=by have:=h3.snap F;rw[m.1]at this;simpa[ZH]using this
 have J:q=t.idx.map Yq:=by have:=b.snap G;rw[o.1]at this;simpa[ZH]using this
 rw[(u.pure B).1,(h2.pure C).1,m.1,o.1,H,J];rfl
def SeenX(h:Za)(a:AV)(x:List Tbl):Prop:=∃rs,Lst h a rs∧Both (SeenT h) rs x
theorem SeenX.snap{h:Za}{a:AV}{x:List Tbl}(n:Nat)(s:SeenX h a x):ZH (Zy (n+2) h) h a=some (.rows (x.map Zc)):=by obtain⟨rs,b,h2⟩:=s;exact b.snap (Q4 (fun _ _ r=>SeenT.ok n r) (fun _ _ r e=>SeenT.pure r e) h2)
theorem ZeN{h:Za}{x:List Tbl}(s:SeenX h a x)(r r':List AV)(b:Zs (Zy 7 h) h r=some r'):Zy 8 h (.agg [a]::r)=some (ZX x::r'):=by have e:ZH (Zy 7 h) h a=some (.rows (x.map Zc)):=s.snap 5;show Zs (Zy 7 h) h (.agg [a]::r)=_;simp only[Zs,ZH,e,b]
theorem XO{h:Za}{t:Tbl}(s:SeenT h row t)(r r':List AV)(b:Zs (Zy 7 h) h r=some r'):Zy 8 h (.agg row::r)=some (.agg (Zc t)::r'):=by have e:Zs (Zy 7 h) h row=some (Zc t):=s.cells 6;show Zs (Zy 7 h) h (.agg row::r)=_;simp only[Zs,ZH,e,b]
section
variable{g:Za}{N:Nat}
theorem gA0(b:g.length=N)(t:Za):(g++t)[N]?=t[0]?:=by rw[Vy (by omega),b,UJ]
theorem gA(b:g.length=N)(t:Za)(i:Nat):(g++t)[N+i]?=t[i]?:=by rw[Vy (by omega),b,Uw]
theorem sA0(e:g.length=N)(b:Blk)(t:Za):(g++t).set N b=g++t.set 0 b:=by rw[Sk _ _ (by omega),e,UJ]
theorem sA(e:g.length=N)(b:Blk)(t:Za)(i:Nat):(g++t).set (N+i) b=g++t.set i b:=by rw[Sk _ _ (by omega),e,Uw]
theorem gL{b:Blk}(e:g[l]?=some b)(t:Za):(g++t)[l]?=some b:=by rw[Vh (Vb.1 e).1];exact e
theorem sL{b:Blk}(e:g[l]?=some b)(b':Blk)(t:Za):(g++t).set l b'=g.set l b'++t:=S3 _ _ (Vb.1 e).1
theorem X6(b:g.length=N)(t:Za):(g++t).take N=g:=by rw[←b,Pl]
theorem YL(b:g.length=N)(t:Za)(i:Nat):(g++t).take (N+i)=g++t.take i:=by rw[←b,List.take_length_add_append]
end
theorem ZR:∀(a b:Za),Zk (a++b)=Zk a++Zk b
 |[],_=>rfl
 |x::a,b=>by simp only[Vl,Zk,ZR a b,Vo]
theorem ZV(n:Nat):∀(a b:List Nat),Zi n (a++b)=(Zi n a&&Zi n b)
 |[],_=>rfl
 |x::a,b=>by simp only[Vl,Zi,ZV n a b,Bool.and_assoc]
theorem Zt{n:Nat}:∀{l:List Nat},Zi n l=true↔∀x∈l,x<n
 |[]=>by simp[Zi]
 |x::l=>by simp[Zi,Zt (l:=l)]
theorem Yf{n m:Nat}{l:List Nat}(h:Zi n l=true)(b:n≤m):Zi m l=true:=Zt.2 fun x e=>Ur (Zt.1 h x e) b
theorem Zbw{n x:Nat}{l:List Nat}(b:x∈l)(e:n≤x):Zi n l=false:=by
 cases h:Zi n l with
 |false=>rfl
 |true=>have:=Zt.1 h x b;omega
theorem Zru{l:List (List UInt8)}(h:1≤l.length):(SLs l).isEmpty=false:=by
 cases l with
 |nil=>simp at h
 |cons a l=>rfl
theorem Zar(x:List (List UInt8))(r:x.length≤1000000):R K (.call 118 [.rows (SLs x)] [])=some (.own 0 x.length,[.rows 1 (SLs x) true]):=by
 rcases Ut x.length with b|h
 ·have m:x=[]:=VS.1 b;subst m;exact ZeF rfl rfl
 have e:=Zru h;have o:(x.length*17≤Zp)=True:=V5 (by unfold Zp;omega);have d:(0<x.length)=True:=V5 (by omega);have q:K.prim 118 [.rows (SLs x)]=none:=rfl;have hh:K.primH 118 [.rows (SLs x)] []=none:=by
  cases x with
  |nil=>simp at h
  |cons a x=>rfl
 rw[Zvq q hh];simp only[go_sem,simprocAttr,f118,e,o,d,Xc,Zv,Vd,VI,VZ,Vi]
def Yc(o:Option Nat)(c:List (List UInt8)):AV:=match o with
 |some l=>.own l c.length
 |none=>.rows (SLs c)
structure LF where
 f:Fgn
 l:Option Nat
structure LI where
 x:Idx
 l:Option Nat
def ZF(a:LF):List AV:=[.str a.f.nm,Yc a.l a.f.cols,.str a.f.tb]
def ZJ(a:LI):List AV:=[.str a.x.nm,Yc a.l a.x.cols,.bool a.x.uq]
structure LT where
 nm:List UInt8
 cols:List Col
 lc:Nat
 key:List (List UInt8)
 lk:Nat
 fs:List LF
 lf:Nat
 is:List LI
 li:Nat
def Zn(t:LT):List AV:=[.str t.nm,.own t.lc t.cols.length,.own t.lk t.key.length,.own t.lf t.fs.length,.own t.li t.is.length]
def LT.tbl(t:LT):Tbl:=⟨t.nm,t.cols,t.key,t.fs.map (·.f),t.is.map (·.x)⟩
def LT.pl(t:LT):List Nat:=t.lc::t.lk::t.lf::t.li::(t.fs.filterMap (·.l)++t.is.filterMap (·.l))
structure HT(h:Za)(t:LT):Prop where
 c:h[t.lc]?=some (.rows 6 (t.cols.map Zh) true)
 k:h[t.lk]?=some (.rows 1 (SLs t.key) true)
 f:h[t.lf]?=some (.rows 3 (t.fs.map ZF) true)
 i:h[t.li]?=some (.rows 3 (t.is.map ZJ) true)
 fc:∀a∈t.fs,∀l,a.l=some l→h[l]?=some (.rows 1 (SLs a.f.cols) true)
 ic:∀a∈t.is,∀l,a.l=some l→h[l]?=some (.rows 1 (SLs a.x.cols) true)
variable{T t:LT}{X:List LT}
theorem HT.frame{h h':Za}(s:HT h t)(e:∀l∈t.pl,h'[l]?=h[l]?):HT h' t:=by
 have m:∀l,l∈t.fs.filterMap (·.l)∨l∈t.is.filterMap (·.l)→l∈t.pl:=fun l b=>by
  simp only[LT.pl,Vn,Vg];rcases b with b|b
  ·exact .inr (.inr (.inr (.inr (.inl b))))
  exact .inr (.inr (.inr (.inr (.inr b))))
 exact⟨(e _ (by simp[LT.pl])).trans s.c,(e _ (by simp[LT.pl])).trans s.k,(e _ (by simp[LT.pl])).trans s.f,(e _ (by simp[LT.pl])).trans s.i,
  fun a o l b=>(e l (m l (.inl (VG.2 ⟨a,o,b⟩)))).trans (s.fc a o l b),fun a o l b=>(e l (m l (.inr (VG.2 ⟨a,o,b⟩)))).trans (s.ic a o l b)⟩
theorem HT.set{h:Za}(s:HT h t)(m:l∉t.pl)(b:Blk):HT (h.set l b) t:=s.frame fun i hi=>Vc fun e=>by subst e;exact m hi
theorem HT.app(s:HT h t)(g:Za):HT (h++g) t:=⟨gL s.c g,gL s.k g,gL s.f g,gL s.i g,fun a b l e=>gL (s.fc a b l e) g,fun a b l e=>gL (s.ic a b l e) g⟩
theorem YG{o:Option Nat}{c:List (List UInt8)}(e:∀l,o=some l→h[l]?=some (.rows 1 (SLs c) true)):Lst h (Yc o c) (SLs c):=by
 cases o with
 |none=>exact .rows _ (Zv c) (Zd1 c)
 |some l=>exact .own l 1 c.length _ true (e l rfl) (Yh c)
theorem HT.fgn(s:HT h t):Both (SeenF h) (t.fs.map ZF) (t.fs.map (·.f)):=Both.map fun a b=>⟨_,rfl,YG (s.fc a b)⟩
theorem HT.idx(s:HT h t):Both (SeenI h) (t.is.map ZJ) (t.is.map (·.x)):=Both.map fun a b=>⟨_,rfl,YG (s.ic a b)⟩
theorem HT.seen(s:HT h t):SeenT h (Zn t) t.tbl :=
 ⟨_,_,_,_,_,_,rfl,.own _ 6 _ _ true s.c (by simp[LT.tbl]),.own _ 1 _ _ true s.k (Yh _),⟨.own _ 3 _ _ true s.f (by simp),s.fgn⟩,.own _ 3 _ _ true s.i (by simp),s.idx⟩
theorem Xg(a b:List (List AV)):Zz (a++b)=Zz a++Zz b:=by
 induction a with
 |nil=>rfl
 |cons x a e=>simp only[Vl,Zz,e,Vo]
theorem ZB(h h':Za):chg h h' []=[]:=rfl
theorem Zi8(i:Nat)(fr:Fr):∀dy:List (Nat×Nat),QC dy i fr []=true
 |[]=>rfl
 |(j,s)::r=>by
  simp only[QC,Zi8 i fr r,U6];split
  ·simp
  rfl
theorem Zf(dy:List (Nat×Nat))(fr:Fr)(i:Nat)(r:List (Nat×List Nat)):YN dy fr ((i,[])::r)=YN dy fr r:=by simp only[YN,Zi8,UC]
section
variable{h:Za}{N:Nat}
def Qc(p:Nat)(fg:List Fgn)(j:Nat):List LF:=(fg.zipIdx).map fun a=>⟨a.1,if a.2<j then some (p+a.2)else none⟩
theorem Zap{f:Fgn}(e:fg[k]?=some f):(Qc p fg j)[k]?=some ⟨f,if k<j then some (p+k)else none⟩:=by simp only[Qc,Vj,List.getElem?_zipIdx,e,Ue,VZ]
theorem Jo(p:Nat)(fg:List Fgn)(j:Nat):(Qc p fg j).length=fg.length:=by simp[Qc]
theorem Zvg{f:Fgn}(e:fg[j]?=some f):((Qc p fg j).map ZF)[j]?=some [.str f.nm,.rows (SLs f.cols),.str f.tb]:=by rw[Vj,Zap e,Vm (Nat.lt_irrefl j)];rfl
theorem ZuM{f:Fgn}(e:fg[j]?=some f):((Qc p fg j).map ZF).set j [.str f.nm,.own (p+j) f.cols.length,.str f.tb]=(Qc p fg (j+1)).map ZF:=by
 have q:=(Vb.1 e).1;apply UD;intro k;by_cases o:j=k
 ·subst o;rw[Vf (by simp[Jo,q]),Vj,Zap e,Vr (Nat.lt_succ_self j)];rfl
 rw[Vc o,Vj,Vj];cases m:fg[k]? with
 |none =>
  have b:fg.length≤k:=Sg.1 m;rw[UG (by rw[Jo];exact b),UG (by rw[Jo];exact b)]
 |some r =>
  rw[Zap m,Zap m];by_cases b:k<j
  ·rw[Vr b,Vr (by omega)]
  rw[Vm b,Vm (by omega)]
theorem ZnE(b:0<j)(h2:0<fg.length):p∈Zz ((Qc p fg j).map ZF):=by
 obtain⟨f,m⟩:=Zu (l:=fg) (i:=0) h2;have e:((Qc p fg j).map ZF)[0]?=some (ZF ⟨f,some p⟩):=by rw[Vj,Zap m,Vr b];rfl
 exact YH (Ve e) p (by simp[ZF,Yc,Zg,locs])
def Qm(p:Nat)(fg:List Idx)(j:Nat):List LI:=(fg.zipIdx).map fun a=>⟨a.1,if a.2<j then some (p+a.2)else none⟩
theorem ZaL{fg:List Idx}{f:Idx}(e:fg[k]?=some f):(Qm p fg j)[k]?=some ⟨f,if k<j then some (p+k)else none⟩:=by simp only[Qm,Vj,List.getElem?_zipIdx,e,Ue,VZ]
theorem Jm(p:Nat)(fg:List Idx)(j:Nat):(Qm p fg j).length=fg.length:=by simp[Qm]
theorem Zu1{fg:List Idx}{f:Idx}(e:fg[j]?=some f):((Qm p fg j).map ZJ)[j]?=some [.str f.nm,.rows (SLs f.cols),.bool f.uq]:=by rw[Vj,ZaL e,Vm (Nat.lt_irrefl j)];rfl
theorem Zte{fg:List Idx}{f:Idx}(e:fg[j]?=some f):((Qm p fg j).map ZJ).set j [.str f.nm,.own (p+j) f.cols.length,.bool f.uq]=(Qm p fg (j+1)).map ZJ:=by
 have q:=(Vb.1 e).1;apply UD;intro k;by_cases o:j=k
 ·subst o;rw[Vf (by simp[Jm,q]),Vj,ZaL e,Vr (Nat.lt_succ_self j)];rfl
 rw[Vc o,Vj,Vj];cases m:fg[k]? with
 |none =>
  have b:fg.length≤k:=Sg.1 m;rw[UG (by rw[Jm];exact b),UG (by rw[Jm];exact b)]
 |some r =>
  rw[ZaL m,ZaL m];by_cases b:k<j
  ·rw[Vr b,Vr (by omega)]
  rw[Vm b,Vm (by omega)]
theorem ZnJ{fg:List Idx}(b:0<j)(h2:0<fg.length):p∈Zz ((Qm p fg j).map ZJ):=by
 obtain⟨f,m⟩:=Zu (l:=fg) (i:=0) h2;have e:((Qm p fg j).map ZJ)[0]?=some (ZJ ⟨f,some p⟩):=by rw[Vj,ZaL m,Vr b];rfl
 exact YH (Ve e) p (by simp[ZJ,Yc,Zg,locs])
theorem Zre{B:Nat}{F:Func}(G:B=54∧F=f54∨B=67∧F=f67){A:AV}(H:locs A=[2])(e:h.length=N)(nm:List UInt8)(cols:List Col)(key:List (List UInt8))(fg:List Fgn)(ix:List Idx)(S:fg.length≤1000)(r:∀f∈fg,f.cols.length≤1000)(T:List (List AV))(len i:Int)(ks:List It):
  ∀(q j:Nat) (E:Za) (m:Code) (jj:Int),YP F 2 m→fg.length=j+q→E=(fg.take j).map (fun f=>Blk.rows 1 (SLs f.cols) true)→jj=(j:Int) →
  RL K (.run B 0 (.code m::.lp m (some ([2,3,5,9,10,11,33,34],[])) (N+5)::.blk 2 (N+5)::ks) [(2,.ptr 1 0),(3,A),(5,.ptr N 0),(9,.rows T),(10,I len),(11,I i),(33,I (fg.length:Int)),(34,I jj)]
   (h++(.cells [.str nm,.own (N+1) cols.length,.own (N+2) key.length,.own (N+3) fg.length,.own (N+4) ix.length]::.rows 6 (cols.map Zh) true::.rows 1 (SLs key) true::.rows 3 ((Qc (N+5) fg j).map ZF) true::.rows 3 (ix.map Yq) true::E))) =
  R K (.run B 0 ks [(2,.ptr 1 0),(3,A),(5,.ptr N 0),(9,.rows T),(10,I len),(11,I i)]
   (h++(.cells [.str nm,.own (N+1) cols.length,.own (N+2) key.length,.own (N+3) fg.length,.own (N+4) ix.length]::.rows 6 (cols.map Zh) true::.rows 1 (SLs key) true::.rows 3 ((Qc (N+5) fg fg.length).map ZF) true::.rows 3 (ix.map Yq) true::fg.map (fun f=>Blk.rows 1 (SLs f.cols) true))))
 |0,j,E,m,jj,o,U,C,J=>by
  subst J;have d:¬(fg.length:Int)<(fg.length:Int):=by omega
  have W:fg.length=j:=by omega
  have Y:E=fg.map (fun f=>Blk.rows 1 (SLs f.cols) true):=by rw[C,VM (by omega)]
  rw[←W,Y];rcases G with⟨rfl,rfl⟩|⟨rfl,rfl⟩
  all_goals
   simp only[go_sem,simprocAttr,f54,f67]at o;subst o;rw[Ze];simp only[go_sem,simprocAttr,H,d,YL e];rcases Ut fg.length with D|D
   ·have:fg=[]:=VS.1 D;subst this;simp only[VO,ite_self]
   rw[Vm];rintro⟨_,u⟩;rw[ZR,ZV]at u;have u:=(VA _ _▸u).2;rw[Zbw (x:=N+5) (by simp[Zk,ZA,ZnE D D]) (Vw _)]at u;simp at u
 |q+1,j,E,m,jj,o,U,C,J=>by
  subst J;have d:(j:Int)<(fg.length:Int):=by omega
  have Z:=ZQ (i:=j) (n:=fg.length) (by omega) (by omega);obtain⟨f,b⟩:=Zu (l:=fg) (i:=j) (by omega);have L:=Zvg (p:=N+5) b;have g2:at? ((Qc (N+5) fg j).map ZF) (j:Int)=some [.str f.nm,.rows (SLs f.cols),.str f.tb]:=ZW L;have g3:=ZuM (p:=N+5) b;have g4:=Jo (N+5) fg j;have cl:=Zar f.cols (by have:=r f (Ve b);omega);have w:E.length=j:=by rw[C];simp;omega
  have ih:=Zre G H e nm cols key fg ix S r T len i ks q (j+1) (E++[Blk.rows 1 (SLs f.cols) true]) m _ o (by omega) (by rw[C,Sd,b];simp) rfl;have gE:∀c M O P Q X:Blk,(h++c::M::O::P::Q::(E++[X]))[N+5+j]?=some X:=fun c M O P Q X=>by rw[show N+5+j=N+(j+1+1+1+1+1)by omega,gA e];simp only[VJ];rw[Vy (by omega),w,UJ];rfl
  have u2:Zi (N+5) (Zk (h++[.cells [.str nm,.own (N+1) cols.length,.own (N+2) key.length,.own (N+3) fg.length,.own (N+4) ix.length],.rows 6 (cols.map Zh) true,.rows 1 (SLs key) true,.rows 3 ((Qc (N+5) fg (j+1)).map ZF) true,.rows 3 (ix.map Yq) true]))=false:=by rw[ZR];exact Zbw (x:=N+5) (Sj _ (by simp[Zk,ZA,ZnE (p:=N+5) (fg:=fg) (j:=j+1) (by omega) (by omega)])) (Vw _)
  have p5:N+(j+1+1+1+1+1)=N+5+j:=by omega
  rcases G with⟨rfl,rfl⟩|⟨rfl,rfl⟩
  all_goals
   simp only[go_sem,simprocAttr,f54,f67]at o;subst o;rw[Ze];simp only[go_sem,simprocAttr,H,ZB,Zf,u2,p5,gE,Zv,d,Z,L,g2,g3,g4,cl,e,w,gA0 e,gA e,sA e,YL e,Vk,Vd,Vo];exact ih
theorem Zqk{J:Nat}{O:Func}(w:J=54∧O=f54∨J=67∧O=f67){A:AV}(P:locs A=[2])(u:h.length=N)(nm:List UInt8)(cols:List Col)(key:List (List UInt8))(nf:Nat)(b:Blk)(D:Za)(n:Nat)(U:N+5+D.length=n)(fg:List Idx)(W:fg.length≤1000)(F:∀f∈fg,f.cols.length≤1000)(T:List (List AV))(len i:Int)(ks:List It):
  ∀(q j:Nat) (E:Za) (B:Code) (jj:Int),YP O 4 B→fg.length=j+q→E=(fg.take j).map (fun f=>Blk.rows 1 (SLs f.cols) true)→jj=(j:Int) →
  RL K (.run J 0 (.code B::.lp B (some ([2,3,5,9,10,11,52,53],[])) n::.blk 4 n::ks) [(2,.ptr 1 0),(3,A),(5,.ptr N 0),(9,.rows T),(10,I len),(11,I i),(52,I (fg.length:Int)),(53,I jj)]
   (h++(.cells [.str nm,.own (N+1) cols.length,.own (N+2) key.length,.own (N+3) nf,.own (N+4) fg.length]::.rows 6 (cols.map Zh) true::.rows 1 (SLs key) true::b::.rows 3 ((Qm n fg j).map ZJ) true::(D++E)))) =
  R K (.run J 0 ks [(2,.ptr 1 0),(3,A),(5,.ptr N 0),(9,.rows T),(10,I len),(11,I i)]
   (h++(.cells [.str nm,.own (N+1) cols.length,.own (N+2) key.length,.own (N+3) nf,.own (N+4) fg.length]::.rows 6 (cols.map Zh) true::.rows 1 (SLs key) true::b::.rows 3 ((Qm n fg fg.length).map ZJ) true::(D++fg.map (fun f=>Blk.rows 1 (SLs f.cols) true)))))
 |0,j,E,B,jj,C,Y,L,Q=>by
  subst Q;have d:¬(fg.length:Int)<(fg.length:Int):=by omega
  have Z:fg.length=j:=by omega
  have e2:E=fg.map (fun f=>Blk.rows 1 (SLs f.cols) true):=by rw[L,VM (by omega)]
  rw[←Z,e2];have tk:∀(c e m b o:Blk) (E:Za),(h++c::e::m::b::o::(D++E)).take n=h++c::e::m::b::o::D:=fun c e m b o E=>by rw[show n=N+(D.length+5)by omega,YL u];simp
  rcases w with⟨rfl,rfl⟩|⟨rfl,rfl⟩
  all_goals
   simp only[go_sem,simprocAttr,f54,f67]at C;subst C;rw[Ze];simp only[go_sem,simprocAttr,tk,P,d];rcases Ut fg.length with M|M
   ·have:fg=[]:=VS.1 M;subst this;simp only[VO,Vv,ite_self]
   rw[Vm];rintro⟨_,G⟩;rw[ZR,ZV]at G;have G:=(VA _ _▸G).2;have w:n∈Zk (.cells [.str nm,.own (N+1) cols.length,.own (N+2) key.length,.own (N+3) nf,.own (N+4) fg.length]::.rows 6 (cols.map Zh) true::.rows 1 (SLs key) true::b::.rows 3 ((Qm n fg fg.length).map ZJ) true::D):=by simp only[Zk,ZA,Vg];exact .inr (.inr (.inr (.inr (.inl (ZnJ (p:=n) M M)))))
   rw[Zbw (x:=n) w (Vw _)]at G;simp at G
 |q+1,j,E,B,jj,C,Y,L,Q=>by
  subst Q;have d:(j:Int)<(fg.length:Int):=by omega
  have h7:=ZQ (i:=j) (n:=fg.length) (by omega) (by omega);obtain⟨f,r⟩:=Zu (l:=fg) (i:=j) (by omega);have S:=Zu1 (p:=n) r;have g2:at? ((Qm n fg j).map ZJ) (j:Int)=some [.str f.nm,.rows (SLs f.cols),.bool f.uq]:=ZW S;have g3:=Zte (p:=n) r;have g4:=Jm n fg j;have cl:=Zar f.cols (by have:=F f (Ve r);omega);have H:E.length=j:=by rw[L];simp;omega
  have ih:=Zqk w P u nm cols key nf b D n U fg W F T len i ks q (j+1) (E++[Blk.rows 1 (SLs f.cols) true]) B _ C (by omega) (by rw[L,Sd,r];simp) rfl;have gE:∀c e m b o X:Blk,(h++c::e::m::b::o::(D++(E++[X])))[n+j]?=some X:=fun c e m b o X=>by rw[show n+j=N+(D.length+j+1+1+1+1+1)by omega,gA u];simp only[VJ];rw[Vy (by omega),Uw,Vy (by omega),H,UJ];rfl
  have u2:Zi n (Zk (h++.cells [.str nm,.own (N+1) cols.length,.own (N+2) key.length,.own (N+3) nf,.own (N+4) fg.length]::.rows 6 (cols.map Zh) true::.rows 1 (SLs key) true::b::.rows 3 ((Qm n fg (j+1)).map ZJ) true::D))=false:=by
   rw[ZR];have w:n∈Zk (.cells [.str nm,.own (N+1) cols.length,.own (N+2) key.length,.own (N+3) nf,.own (N+4) fg.length]::.rows 6 (cols.map Zh) true::.rows 1 (SLs key) true::b::.rows 3 ((Qm n fg (j+1)).map ZJ) true::D):=by simp only[Zk,ZA,Vg];exact .inr (.inr (.inr (.inr (.inl (ZnJ (p:=n) (fg:=fg) (j:=j+1) (by omega) (by omega))))))
   exact Zbw (x:=n) (Sj _ w) (Vw _)
  have p5:N+(D.length+j+1+1+1+1+1)=n+j:=by omega
  have tk:∀(c e m b o:Blk) (E:Za),(h++c::e::m::b::o::(D++E)).take n=h++c::e::m::b::o::D:=fun c e m b o E=>by rw[show n=N+(D.length+5)by omega,YL u];simp
  have l1:N<n:=by omega
  have l2:2<n:=by omega
  have l3:1<n:=by omega
  rcases w with⟨rfl,rfl⟩|⟨rfl,rfl⟩
  all_goals
   simp only[go_sem,simprocAttr,f54,f67]at C;subst C;rw[Ze];simp only[go_sem,simprocAttr,tk,l1,l2,l3,P,ZB,Zf,u2,p5,gE,Zv,d,h7,S,g2,g3,g4,cl,u,H,gA0 u,gA u,sA u,Vk,Vd,Vo];exact ih
end
structure SmT(t:Tbl):Prop where
 cols:t.cols.length≤1000000
 key:t.key.length≤1000000
 fgn:t.fgn.length≤1000
 idx:t.idx.length≤1000
 fg:∀f∈t.fgn,f.cols.length≤1000
 ix:∀f∈t.idx,f.cols.length≤1000
def WA(n:Nat)(t:Tbl):List AV:=[.str t.nm,.own (n+1) t.cols.length,.own (n+2) t.key.length,.own (n+3) t.fgn.length,.own (n+4) t.idx.length]
def Yz(n:Nat)(t:Tbl):Za:=.cells (WA n t)::.rows 6 (t.cols.map Zh) true::.rows 1 (SLs t.key) true::.rows 3 ((Qc (n+5) t.fgn t.fgn.length).map ZF) true::.rows 3 ((Qm (n+5+t.fgn.length) t.idx t.idx.length).map ZJ) true::(t.fgn.map (fun f=>Blk.rows 1 (SLs f.cols) true)++(t.idx.map (fun f=>Blk.rows 1 (SLs f.cols) true)++[.rows 5 [WA n t] false]))
def WB(n:Nat)(t:Tbl):LT:=⟨t.nm,t.cols,n+1,t.key,n+2,Qc (n+5) t.fgn t.fgn.length,n+3,Qm (n+5+t.fgn.length) t.idx t.idx.length,n+4⟩
theorem Y4(n:Nat)(t:Tbl):Zn (WB n t)=WA n t:=by simp[Zn,WB,WA,Jo,Jm]
theorem Y0(n:Nat)(t:Tbl):(Yz n t).length=6+(t.fgn.length+t.idx.length):=by simp[Yz];omega
theorem Zo1(p:Nat)(fg:List Fgn):(Qc p fg 0).map ZF=fg.map Z7:=by
 apply UD;intro k;rw[Vj,Vj];cases b:fg[k]? with
 |none =>
  have e:fg.length≤k:=Sg.1 b;rw[UG (by rw[Jo];exact e)];rfl
 |some m =>
  rw[Zap b,Vm (by omega)];rfl
theorem Zpd(p:Nat)(fg:List Idx):(Qm p fg 0).map ZJ=fg.map Yq:=by
 apply UD;intro k;rw[Vj,Vj];cases b:fg[k]? with
 |none =>
  have e:fg.length≤k:=Sg.1 b;rw[UG (by rw[Jm];exact e)];rfl
 |some m =>
  rw[ZaL b,Vm (by omega)];rfl
def Wv:Nat→List Tbl→Za
 |_,[]=>[]
 |n,t::r=>Yz n t++Wv (n+(Yz n t).length) r
def XC:Nat→List Tbl→List LT
 |_,[]=>[]
 |n,t::r=>WB n t::XC (n+(Yz n t).length) r
theorem ZzW{ks:List It}{x:List Tbl}(S:x.length≤1000)(hs:∀t∈x,SmT t):∀(r:List Tbl) (i:Nat) (G:Za) (X:List LT) (N m:Nat) (o:Code) (D:Int),YP f54 0 o→r=x.drop i→i≤x.length→G.length+3=N→m=i→X.length=i→D=(i:Int)→(Zi 3 (Zz (X.map Zn))=true→G=[]) →
  RL K (.run 54 0 (.code o::.lp o (some ([2,3,9,10,11],[])) 3::.blk 0 3::ks) [(2,.ptr 1 0),(3,.own 2 m),(9,.rows (x.map Zc)),(10,I (x.length:Int)),(11,I D)]
   (.cells [.rows (x.map Zc)]::.cells [.nils]::.rows 5 (X.map Zn) true::G)) =
  R K (.run 54 0 ks [(2,.ptr 1 0),(3,.own 2 (m+r.length))]
   (.cells [.rows (x.map Zc)]::.cells [.nils]::.rows 5 ((X++XC N r).map Zn) true::(G++Wv N r)))
 |[],i,G,X,N,m,o,D,q,w,hi,U,W,E,F,J=>by
  subst F;have Y:i=x.length:=by have:=congrArg List.length w;simp at this;omega
  subst Y;have d:¬(x.length:Int)<(x.length:Int):=by omega
  simp only[XC,Wv,Vv,VI,Ug];simp only[go_sem,simprocAttr,f54]at q;subst q;rw[Ze];simp only[go_sem,simprocAttr,d];by_cases u:Zi 3 (Zz (X.map Zn))=true
  ·rw[Vr u,J u]
  rw[Vm u]
 |t::r,i,G,X,N,m,o,D,q,w,hi,U,W,E,F,J=>by
  subst F;have d1:i<x.length:=by have:=congrArg List.length w;simp at this;omega
  have d:(i:Int)<(x.length:Int):=by omega
  have C:x[i]?=some t:=by have:=congrArg (·[0]?) w;simp at this;exact this.symm
  have H:r=x.drop (i+1):=by have:=congrArg List.tail w;simpa[UY]using this
  have st:=hs t (Ve C);have Z:=ZQ (i:=i) (n:=x.length) (by omega) (by omega);have g2:at? (x.map Zc) (i:Int)=some (Zc t):=ZW (by rw[Vj,C];rfl);have cC:=ZfA t.cols st.cols;have cK:=Zar t.key st.key;have cF:=Zan t.fgn (by have:=st.fgn;omega);have cI:=Zau t.idx (by have:=st.idx;omega);generalize hh:(Blk.cells [.rows (x.map Zc)]::.cells [.nils]::.rows 5 (X.map Zn) true::G)=h;have e:h.length=N:=by rw[←hh];simp;omega
  have h2:h[2]?=some (.rows 5 (X.map Zn) true):=by rw[←hh];rfl
  have s2:∀b,h.set 2 b=.cells [.rows (x.map Zc)]::.cells [.nils]::b::G:=fun b=>by rw[←hh];rfl
  have L:Zi 3 (Zz (X.map Zn++[[.str t.nm,.own (N+1) t.cols.length,.own (N+2) t.key.length,.own (N+3) t.fgn.length,.own (N+4) t.idx.length]]))=false :=
   Zbw (x:=N+1) (YH (Sj _ (VH.2 rfl)) _ (by simp[Zg,locs])) (by omega)
  have M:=ZzW (ks:=ks) S hs r (i+1) (G++Yz N t) (X++[WB N t]) (N+(Yz N t).length) (i+1) o _ q H (by omega) (by simp[Y0];omega) rfl (by simp[E]) rfl (fun u=>by rw[Ua,Vz,VO,Y4,WA,L]at u;cases u);simp only[Ua,Vz,VO,Y4,WA,Yz,Vo,Vl,Vi]at M;simp only[go_sem,simprocAttr,f54]at q;subst q;rw[Ze];simp only[go_sem,simprocAttr,d,ZB,Zf,Zw,Xy,YV,g2,cC,cK,cF,cI,Zc,e,gA0 e,sA0 e,Zv,Vo];have O:=fun(ks:List It) (o:Code) q=>Zre (.inl ⟨rfl,rfl⟩) (ks:=ks) (h:=h) (N:=N) (A:=.own 2 m) rfl e t.nm t.cols t.key t.fgn t.idx st.fgn st.fg (x.map Zc) (x.length:Int) (i:Int) t.fgn.length 0 [] o 0 q (by omega) (by simp) rfl;rw[Zo1]at O;rw[O _ _ ?_]
  rotate_left
  ·rfl
  simp only[go_sem,simprocAttr,e,gA0 e,Vd];rw[show N+(t.fgn.length+1+1+1+1+1)=N+5+t.fgn.length by omega];have P:=fun(ks:List It) (o:Code) q=>Zqk (.inl ⟨rfl,rfl⟩) (ks:=ks) (h:=h) (N:=N) (A:=.own 2 m) rfl e t.nm t.cols t.key t.fgn.length (.rows 3 ((Qc (N+5) t.fgn t.fgn.length).map ZF) true) (t.fgn.map fun f=>Blk.rows 1 (SLs f.cols) true) (N+5+t.fgn.length) (by simp) t.idx st.idx st.ix (x.map Zc) (x.length:Int) (i:Int) t.idx.length 0 [] o 0 q (by omega) (by simp) rfl;rw[Zpd,Vv]at P;rw[P _ _ ?_]
  rotate_left
  ·rfl
  have rm:(i+1)*113≤Zp:=by unfold Zp;omega
  have gB:∀(A B:Za) (b:Blk),(A++(B++[b]))[A.length+B.length]?=some b:=fun A B b=>by rw[←Vo,←Vu,Vy (Vw _),UJ];rfl
  have Q:=gB (t.fgn.map fun f=>Blk.rows 1 (SLs f.cols) true) (t.idx.map fun f=>Blk.rows 1 (SLs f.cols) true);rw[Vd,Vd]at Q;subst m;simp only[go_sem,simprocAttr,L,Q,rm,E,Zw,Z,e,gA0 e,gA e,gL h2,sL h2,s2,Vd,Vo];rw[show i+(r.length+1)=i+1+r.length by omega];simp only[XC,Wv,Ua,Vz,Y4,WA,Yz,Vo,Vl,Vi];exact M
theorem WT(x:List Tbl)(b:x.length≤1000)(hs:∀t∈x,SmT t):R K (.call 54 [ZX x] [])=some (.agg [.own 2 x.length],.cells [.rows (x.map Zc)]::.cells [.own 2 x.length]::.rows 5 ((XC 3 x).map Zn) true::Wv 3 x):=by
 rw[Zze];simp only[go_sem,simprocAttr,f54];have L:=fun(ks:List It) Bo hB=>ZzW (ks:=ks) (x:=x) b hs x 0 [] [] 3 0 Bo 0 hB rfl (UB _) rfl rfl rfl rfl (fun _=>rfl);simp only[VO,Vi,VZ]at L;rw[L _ _ ?_]
 rotate_left
 ·rfl
 simp only[go_sem,simprocAttr]
theorem ZCz{ks:List It}{N:Nat}(r:N=3){x:List Tbl}(P:x.length≤1000)(hs:∀t∈x,SmT t)(t:Tbl)(o:x[0]?=some t)(m:Code)(q:YP f67 0 m):
  RL K (.run 67 0 (.code m::.lp m (some ([2,3,9,10,11],[])) 3::.blk 0 3::ks) [(2,.ptr 1 0),(3,.ptr 2 0),(9,.rows (x.map Zc)),(10,I (x.length:Int)),(11,I 0)]
   [.cells [.rows (x.map Zc)],.cells [.nils],.cells [.nils]]) =
  RL K (.run 67 0 (.code m::.lp m (some ([2,3,9,10,11],[])) 3::.blk 0 3::ks) [(2,.ptr 1 0),(3,.ptr 2 0),(9,.rows (x.map Zc)),(10,I (x.length:Int)),(11,I 1)]
   (.cells [.rows (x.map Zc)]::.cells [.nils]::.cells [.own (3+(Yz 3 t).length) 1]::(Yz 3 t++[.rows 5 [WA 3 t] true]))):=by
  have st:=hs t (Ve o);have d:(0:Int)<(x.length:Int):=by have:=(Vb.1 o).1;omega
  have D:at? (x.map Zc) 0=some (Zc t):=ZW (by rw[Vj,o];rfl);have E:=ZfA t.cols st.cols;have F:=Zar t.key st.key;have G:=Zan t.fgn (by have:=st.fgn;omega);have H:=Zau t.idx (by have:=st.idx;omega);generalize hh:([Blk.cells [.rows (x.map Zc)],.cells [.nils],.cells [.nils]]:Za)=h;have e:h.length=N:=by rw[←hh];exact r.symm
  have h2:h[2]?=some (.cells [.nils]):=by rw[←hh];rfl
  have J:∀b,h.set 2 b=.cells [.rows (x.map Zc)]::.cells [.nils]::b::[]:=fun b=>by rw[←hh];rfl
  simp only[go_sem,simprocAttr,f67]at q;subst q;rw[Ze];simp only[go_sem,simprocAttr,d,ZB,Zf,Zw,Xy,YV,D,E,F,G,H,Zc,e,gA0 e,sA0 e,Zv,Vo];have u:=fun(ks:List It) (m:Code) q=>Zre (.inr ⟨rfl,rfl⟩) (ks:=ks) (h:=h) (N:=N) (A:=.ptr 2 0) rfl e t.nm t.cols t.key t.fgn t.idx st.fgn st.fg (x.map Zc) (x.length:Int) 0 t.fgn.length 0 [] m 0 q (by omega) (by simp) rfl;rw[Zo1]at u;rw[u _ _ ?_]
  rotate_left
  ·rfl
  simp only[go_sem,simprocAttr,e,gA0 e,Vd];rw[show N+(t.fgn.length+1+1+1+1+1)=N+5+t.fgn.length by omega];have w:=fun(ks:List It) (m:Code) q=>Zqk (.inr ⟨rfl,rfl⟩) (ks:=ks) (h:=h) (N:=N) (A:=.ptr 2 0) rfl e t.nm t.cols t.key t.fgn.length (.rows 3 ((Qc (N+5) t.fgn t.fgn.length).map ZF) true) (t.fgn.map fun f=>Blk.rows 1 (SLs f.cols) true) (N+5+t.fgn.length) (by simp) t.idx st.idx st.ix (x.map Zc) (x.length:Int) 0 t.idx.length 0 [] m 0 q (by omega) (by simp) rfl;rw[Zpd,Vv]at w;rw[w _ _ ?_]
  rotate_left
  ·rfl
  have L:1*113≤Zp:=by unfold Zp;omega
  have M:∀(A B:Za) (b:Blk),(A++(B++[b]))[A.length+B.length]?=some b:=fun A B b=>by rw[←Vo,←Vu,Vy (Vw _),UJ];rfl
  have C:=M (t.fgn.map fun f=>Blk.rows 1 (SLs f.cols) true) (t.idx.map fun f=>Blk.rows 1 (SLs f.cols) true);rw[Vd,Vd]at C
  skip
  simp only[go_sem,simprocAttr,C,L,Zw,e,gA0 e,gA e,gL h2,sL h2,J,Vd,Vo];rw[Vm (by omega)];have O:N+(t.fgn.length+(t.idx.length+1)+1+1+1+1+1)=3+(Yz 3 t).length:=by rw[Y0];omega
  rw[O];subst N;simp only[Yz,WA,Vl,Vi,Vo]
  skip
theorem ZAa{ks:List It}{x:List Tbl}(W:x.length≤1000)(hs:∀t∈x,SmT t){P:Za}{q:Nat}(F:3+P.length=q):∀(r:List Tbl) (i:Nat) (G:Za) (X:List LT) (N m:Nat) (o:Code) (E:Int),YP f67 0 o→r=x.drop i→i≤x.length→q+(G.length+1)=N→m=i→X.length=i→E=(i:Int) →
  RL K (.run 67 0 (.code o::.lp o (some ([2,3,9,10,11],[])) 3::.blk 0 3::ks) [(2,.ptr 1 0),(3,.ptr 2 0),(9,.rows (x.map Zc)),(10,I (x.length:Int)),(11,I E)]
   (.cells [.rows (x.map Zc)]::.cells [.nils]::.cells [.own q m]::(P++.rows 5 (X.map Zn) true::G))) =
  R K (.run 67 0 ks [(2,.ptr 1 0),(3,.ptr 2 0)]
   (.cells [.rows (x.map Zc)]::.cells [.nils]::.cells [.own q (m+r.length)]::(P++.rows 5 ((X++XC N r).map Zn) true::(G++Wv N r))))
 |[],i,G,X,N,m,o,E,u,w,hi,Y,H,J,L=>by
  subst L;have Z:i=x.length:=by have:=congrArg List.length w;simp at this;omega
  subst Z;have d:¬(x.length:Int)<(x.length:Int):=by omega
  simp only[XC,Wv,Vv,VI,Ug];simp only[go_sem,simprocAttr,f67]at u;subst u;rw[Ze];simp only[go_sem,simprocAttr,d];rw[Vm (by omega)]
 |t::r,i,G,X,N,m,o,E,u,w,hi,Y,H,J,L=>by
  subst L;have d1:i<x.length:=by have:=congrArg List.length w;simp at this;omega
  have d:(i:Int)<(x.length:Int):=by omega
  have C:x[i]?=some t:=by have:=congrArg (·[0]?) w;simp at this;exact this.symm
  have M:r=x.drop (i+1):=by have:=congrArg List.tail w;simpa[UY]using this
  have st:=hs t (Ve C);have h7:=ZQ (i:=i) (n:=x.length) (by omega) (by omega);have g2:at? (x.map Zc) (i:Int)=some (Zc t):=ZW (by rw[Vj,C];rfl);have cC:=ZfA t.cols st.cols;have cK:=Zar t.key st.key;have cF:=Zan t.fgn (by have:=st.fgn;omega);have cI:=Zau t.idx (by have:=st.idx;omega);generalize hh:(Blk.cells [.rows (x.map Zc)]::.cells [.nils]::.cells [.own q m]::(P++.rows 5 (X.map Zn) true::G))=h;have e:h.length=N:=by rw[←hh];simp;omega
  have h2:h[2]?=some (.cells [.own q i]):=by rw[←hh,H];rfl
  have D:h[q]?=some (.rows 5 (X.map Zn) true):=by rw[←hh,←F,Nat.add_comm];simp
  have s2:∀b,h.set q b=.cells [.rows (x.map Zc)]::.cells [.nils]::.cells [.own q i]::(P++b::G):=fun b=>by rw[←hh,H,←F,Nat.add_comm];simp
  have l2:¬(q<3):=by omega
  have O:=ZAa (ks:=ks) W hs F r (i+1) (G++Yz N t) (X++[WB N t]) (N+(Yz N t).length) (i+1) o _ u M (by omega) (by simp[Y0];omega) rfl (by simp[J]) rfl;simp only[Ua,Vz,VO,Y4,WA,Yz,Vo,Vl,Vi]at O;simp only[go_sem,simprocAttr,f67]at u;subst u;rw[Ze];simp only[go_sem,simprocAttr,d,ZB,Zf,Zw,Xy,YV,g2,cC,cK,cF,cI,Zc,e,gA0 e,sA0 e,Zv,Vo];have Q:=fun(ks:List It) (o:Code) u=>Zre (.inr ⟨rfl,rfl⟩) (ks:=ks) (h:=h) (N:=N) (A:=.ptr 2 0) rfl e t.nm t.cols t.key t.fgn t.idx st.fgn st.fg (x.map Zc) (x.length:Int) (i:Int) t.fgn.length 0 [] o 0 u (by omega) (by simp) rfl;rw[Zo1]at Q;rw[Q _ _ ?_]
  rotate_left
  ·rfl
  simp only[go_sem,simprocAttr,e,gA0 e,Vd];rw[show N+(t.fgn.length+1+1+1+1+1)=N+5+t.fgn.length by omega];have S:=fun(ks:List It) (o:Code) u=>Zqk (.inr ⟨rfl,rfl⟩) (ks:=ks) (h:=h) (N:=N) (A:=.ptr 2 0) rfl e t.nm t.cols t.key t.fgn.length (.rows 3 ((Qc (N+5) t.fgn t.fgn.length).map ZF) true) (t.fgn.map fun f=>Blk.rows 1 (SLs f.cols) true) (N+5+t.fgn.length) (by simp) t.idx st.idx st.ix (x.map Zc) (x.length:Int) (i:Int) t.idx.length 0 [] o 0 u (by omega) (by simp) rfl;rw[Zpd,Vv]at S;rw[S _ _ ?_]
  rotate_left
  ·rfl
  have rm:(i+1)*113≤Zp:=by unfold Zp;omega
  have gB:∀(A B:Za) (b:Blk),(A++(B++[b]))[A.length+B.length]?=some b:=fun A B b=>by rw[←Vo,←Vu,Vy (Vw _),UJ];rfl
  have U:=gB (t.fgn.map fun f=>Blk.rows 1 (SLs f.cols) true) (t.idx.map fun f=>Blk.rows 1 (SLs f.cols) true);rw[Vd,Vd]at U;subst m;simp only[go_sem,simprocAttr,U,rm,J,Zw,h7,e,gA0 e,gA e,gL h2,gL D,sL D,s2,l2,Vd,Vo];rw[show i+(r.length+1)=i+1+r.length by omega];simp only[XC,Wv,Ua,Vz,Y4,WA,Yz,Vo,Vl,Vi];exact O
abbrev Wm(f:Fgn):AV:=.agg (Z7 f)
def ixA{α:Type}(p:α→Bool):List α→Nat→Int
 |[],_=>-1
 |c::r,i=>if p c=true then(i:Int)else ixA p r (i+1)
theorem Zdx{α:Type}(p:α→Bool):∀(l:List α) (i:Nat),decide (0≤ixA p l i)=l.any p
 |[],i=>by simp[ixA]
 |c::r,i=>by
  unfold ixA;rw[List.any_cons];by_cases h:p c=true
  ·rw[Vr h,h,VW];simp
  rw[Vm h,Uk.2 h,UM];exact Zdx p r (i+1)
theorem Zgm{α:Type}(f:α→List UInt8)(n:List UInt8):∀(l:List α) (i:Nat),ixA (fun c=>f c==n) l i=ixN n (l.map f) i
 |[],i=>rfl
 |c::r,i=>by simp only[ixA,Vz,ixN,Up,Zgm f n r]
mutual
theorem Zm2(σ:Nat→Nat):∀a:AV,locs a=[]→ren σ a=a
 |.ptr _ _,h|.own _ _,h|.optr _ _ _ _,h|.mp _,h|.tptr _ _ _,h|.town _ _ _,h|.vw _ _ _ _,h=>by simp[locs]at h
 |.agg cs,h|.tup cs,h|.fn _ cs,h|.bnd _ cs,h=>by simp only[ren,Zad σ cs (by simpa[locs]using h)]
 |.iface _ a,h=>by simp only[ren,Zm2 σ a (by simpa[locs]using h)]
 |.nilp,_|.nilf,_|.nili,_|.nilm,_|.emp _,_|.int _ _,_|.bool _,_|.str _,_|.rows _,_|.nils,_|.rptr _ _,_|.lit _,_|.any,_=>rfl
theorem Zad(σ:Nat→Nat):∀cs:List AV,Zg cs=[]→Xl σ cs=cs
 |[],_=>rfl
 |a::r,h=>by have:=Uy.1 (show locs a++Zg r=[]from h);simp only[Xl,Zm2 σ a this.1,Zad σ r this.2]
end
abbrev Qe(f:Idx):AV:=.agg (Yq f)
theorem Zqq(f:AV)(h:Za)(p:Fgn→Bool)(u:Zi h.length (Zk h)=true)(l:List Fgn)(D:l.length≤1000000)(C:∀c∈l,ZU nlA (R K) h [Wm c] f=some (.bool (p c),h))(ks:List It):
  ∀(q j:Nat) (i:Int) (m:Code),YP f136 0 m→i=(j:Int)→l.length=j+q →
  RL K (.run 136 h.length (.code m::.lp m (some ([0,1,7,8],[])) h.length::.blk 0 h.length::ks) [(0,.rows (l.map Z7)),(1,f),(7,I (l.length:Int)),(8,I i)] h) =
  if ixA p (l.drop j) j=-1 then R K (.run 136 h.length ks [] h)else some (I (ixA p (l.drop j) j),h)
 |0,j,i,m,b,hi,E=>by
  subst hi;have d:¬(j:Int)<(l.length:Int):=by omega
  rw[V2 (by omega),show ixA p [] j=-1 from rfl,Vr rfl];simp only[go_sem,simprocAttr,f136]at b;subst b;rw[Ze];simp only[go_sem,simprocAttr,d]
 |q+1,j,i,m,b,hi,E=>by
  subst hi;have w:=b;have d:(j:Int)<(l.length:Int):=by omega
  have F:Zx .i64 ((j:Int)+1)=((j+1:Nat):Int):=by rw[Zq (by omega) (by omega)];omega
  obtain⟨c,e⟩:∃c,l[j]?=some c:=⟨l[j]'(by omega),VB _⟩;have A:=ZbD e;have o:=C c (Ve e);have G:=Zqq f h p u l D C ks q (j+1) _ m w rfl (by omega);rw[Y8 e];simp only[Wm,Z7]at A o;by_cases r:p c=true
  ·have B:ixA p (c::l.drop (j+1)) j=(j:Int):=by simp only[ixA];rw[Vr r]
   rw[r]at o;rw[B,Vm (by omega)];simp only[go_sem,simprocAttr,f136]at b;subst b;rw[Ze];simp only[go_sem,simprocAttr,d,A,o,u]
  have B:ixA p (c::l.drop (j+1)) j=ixA p (l.drop (j+1)) (j+1):=by conv=>lhs;simp only[ixA];rw[Vm r]
  rw[Uk.2 r]at o;rw[B];simp only[go_sem,simprocAttr,f136]at b;subst b;rw[Ze];simp only[go_sem,simprocAttr,d,F,A,o,u];rw[G]
theorem Zmm(f:AV)(h:Za)(p:Fgn→Bool)(b:Zi h.length (Zk h)=true)(l:List Fgn)(m:l.length≤1000000)(o:∀c∈l,ZU nlA (R K) h [Wm c] f=some (.bool (p c),h)):
  R K (.call 136 [.rows (l.map Z7),f] h)=some (I (ixA p l 0),h):=by
 have e:=fun ks B q=>Zqq f h p b l m o ks l.length 0 0 B q rfl (by omega);simp only[Ui]at e;rw[ZvZ];simp only[go_sem,simprocAttr,f136,Vd];rw[e _ _ ?_]
 ·split
  ·rename_i r;rw[r];simp only[go_sem,simprocAttr,b]
  rfl
 rfl
theorem ZcW(g:FuncId)(cs:List AV)(b:Zg cs=[])(p:Fgn→Bool)(l:List Fgn)(m:l.length≤1000000)(o:∀c∈l,ZU nlA (R K) [.cells cs] [Wm c] (.fn g [.ptr 0 0])=some (.bool (p c),[.cells cs])):
  R K (.call 127 [.rows (l.map Z7),.fn g [.ptr 0 0]] [.cells cs])=some (.bool (l.any p),[.cells cs]):=by
 have hi:=Zmm (.fn g [.ptr 0 0]) [.cells cs] p (by simp[Zk,ZA,Zi, *]) l m o;have e:=Zdx p l 0;rw[Zu9];simp only[go_sem,simprocAttr,f127,hi,e,b,Zad _ _ b]
theorem Zrc(f:AV)(h:Za)(p:Idx→Bool)(u:Zi h.length (Zk h)=true)(l:List Idx)(D:l.length≤1000000)(C:∀c∈l,ZU nlA (R K) h [Qe c] f=some (.bool (p c),h))(ks:List It):
  ∀(q j:Nat) (i:Int) (m:Code),YP f135 0 m→i=(j:Int)→l.length=j+q →
  RL K (.run 135 h.length (.code m::.lp m (some ([0,1,7,8],[])) h.length::.blk 0 h.length::ks) [(0,.rows (l.map Yq)),(1,f),(7,I (l.length:Int)),(8,I i)] h) =
  if ixA p (l.drop j) j=-1 then R K (.run 135 h.length ks [] h)else some (I (ixA p (l.drop j) j),h)
 |0,j,i,m,b,hi,E=>by
  subst hi;have d:¬(j:Int)<(l.length:Int):=by omega
  rw[V2 (by omega),show ixA p [] j=-1 from rfl,Vr rfl];simp only[go_sem,simprocAttr,f135]at b;subst b;rw[Ze];simp only[go_sem,simprocAttr,d]
 |q+1,j,i,m,b,hi,E=>by
  subst hi;have w:=b;have d:(j:Int)<(l.length:Int):=by omega
  have F:Zx .i64 ((j:Int)+1)=((j+1:Nat):Int):=by rw[Zq (by omega) (by omega)];omega
  obtain⟨c,e⟩:∃c,l[j]?=some c:=⟨l[j]'(by omega),VB _⟩;have A:=Zft e;have o:=C c (Ve e);have G:=Zrc f h p u l D C ks q (j+1) _ m w rfl (by omega);rw[Y8 e];simp only[Qe,Yq]at A o;by_cases r:p c=true
  ·have B:ixA p (c::l.drop (j+1)) j=(j:Int):=by simp only[ixA];rw[Vr r]
   rw[r]at o;rw[B,Vm (by omega)];simp only[go_sem,simprocAttr,f135]at b;subst b;rw[Ze];simp only[go_sem,simprocAttr,d,A,o,u]
  have B:ixA p (c::l.drop (j+1)) j=ixA p (l.drop (j+1)) (j+1):=by conv=>lhs;simp only[ixA];rw[Vm r]
  rw[Uk.2 r]at o;rw[B];simp only[go_sem,simprocAttr,f135]at b;subst b;rw[Ze];simp only[go_sem,simprocAttr,d,F,A,o,u];rw[G]
theorem ZkW(f:AV)(h:Za)(p:Idx→Bool)(b:Zi h.length (Zk h)=true)(l:List Idx)(m:l.length≤1000000)(o:∀c∈l,ZU nlA (R K) h [Qe c] f=some (.bool (p c),h)):
  R K (.call 135 [.rows (l.map Yq),f] h)=some (I (ixA p l 0),h):=by
 have e:=fun ks B q=>Zrc f h p b l m o ks l.length 0 0 B q rfl (by omega);simp only[Ui]at e;rw[Zw3];simp only[go_sem,simprocAttr,f135,Vd];rw[e _ _ ?_]
 ·split
  ·rename_i r;rw[r];simp only[go_sem,simprocAttr,b]
  rfl
 rfl
theorem Zh2(g:FuncId)(cs:List AV)(b:Zg cs=[])(p:Idx→Bool)(l:List Idx)(m:l.length≤1000000)(o:∀c∈l,ZU nlA (R K) [.cells cs] [Qe c] (.fn g [.ptr 0 0])=some (.bool (p c),[.cells cs])):
  R K (.call 130 [.rows (l.map Yq),.fn g [.ptr 0 0]] [.cells cs])=some (.bool (l.any p),[.cells cs]):=by
 have hi:=ZkW (.fn g [.ptr 0 0]) [.cells cs] p (by simp[Zk,ZA,Zi, *]) l m o;have e:=Zdx p l 0;rw[ZuG];simp only[go_sem,simprocAttr,f130,hi,e,b,Zad _ _ b]
theorem Zqs(f:AV)(h:Za)(p:Tbl→Bool)(u:Zi h.length (Zk h)=true)(l:List Tbl)(D:l.length≤1000000)(C:∀c∈l,ZU nlA (R K) h [Yk c] f=some (.bool (p c),h))(ks:List It):
  ∀(q j:Nat) (i:Int) (m:Code),YP f42 0 m→i=(j:Int)→l.length=j+q →
  RL K (.run 42 h.length (.code m::.lp m (some ([0,1,7,8],[])) h.length::.blk 0 h.length::ks) [(0,.rows (l.map Zc)),(1,f),(7,I (l.length:Int)),(8,I i)] h) =
  if ixA p (l.drop j) j=-1 then R K (.run 42 h.length ks [] h)else some (I (ixA p (l.drop j) j),h)
 |0,j,i,m,b,hi,E=>by
  subst hi;have d:¬(j:Int)<(l.length:Int):=by omega
  rw[V2 (by omega),show ixA p [] j=-1 from rfl,Vr rfl];simp only[go_sem,simprocAttr,f42]at b;subst b;rw[Ze];simp only[go_sem,simprocAttr,d]
 |q+1,j,i,m,b,hi,E=>by
  subst hi;have w:=b;have d:(j:Int)<(l.length:Int):=by omega
  have F:Zx .i64 ((j:Int)+1)=((j+1:Nat):Int):=by rw[Zq (by omega) (by omega)];omega
  obtain⟨c,e⟩:∃c,l[j]?=some c:=⟨l[j]'(by omega),VB _⟩;have A:=YF e;have o:=C c (Ve e);have G:=Zqs f h p u l D C ks q (j+1) _ m w rfl (by omega);rw[Y8 e];simp only[Yk,Zc]at A o;by_cases r:p c=true
  ·have B:ixA p (c::l.drop (j+1)) j=(j:Int):=by simp only[ixA];rw[Vr r]
   rw[r]at o;rw[B,Vm (by omega)];simp only[go_sem,simprocAttr,f42]at b;subst b;rw[Ze];simp only[go_sem,simprocAttr,d,A,o,u]
  have B:ixA p (c::l.drop (j+1)) j=ixA p (l.drop (j+1)) (j+1):=by conv=>lhs;simp only[ixA];rw[Vm r]
  rw[Uk.2 r]at o;rw[B];simp only[go_sem,simprocAttr,f42]at b;subst b;rw[Ze];simp only[go_sem,simprocAttr,d,F,A,o,u];rw[G]
theorem Zxw(f:AV)(h:Za)(p:Tbl→Bool)(b:Zi h.length (Zk h)=true)(l:List Tbl)(m:l.length≤1000000)(o:∀c∈l,ZU nlA (R K) h [Yk c] f=some (.bool (p c),h)):
  R K (.call 42 [.rows (l.map Zc),f] h)=some (I (ixA p l 0),h):=by
 have e:=fun ks B q=>Zqs f h p b l m o ks l.length 0 0 B q rfl (by omega);simp only[Ui]at e;rw[Zrh];simp only[go_sem,simprocAttr,f42,Vd];rw[e _ _ ?_]
 ·split
  ·rename_i r;rw[r];simp only[go_sem,simprocAttr,b]
  rfl
 rfl
theorem ZmN(g:FuncId)(cs b:List AV)(m:Zg cs=[])(o:Zg b=[])(p:Tbl→Bool)(l:List Tbl)(q:l.length≤1000000)(r:∀c∈l,ZU nlA (R K) [.cells cs,.cells b] [Yk c] (.fn g [.ptr 0 0,.ptr 1 0])=some (.bool (p c),[.cells cs,.cells b])):
  R K (.call 125 [.rows (l.map Zc),.fn g [.ptr 0 0,.ptr 1 0]] [.cells cs,.cells b])=some (.bool (l.any p),[.cells cs,.cells b]):=by
 have hi:=Zxw (.fn g [.ptr 0 0,.ptr 1 0]) [.cells cs,.cells b] p (by simp[Zk,ZA,Zi, *]) l q r;have e:=Zdx p l 0;rw[ZuE];simp only[go_sem,simprocAttr,f125,hi,e,m,Zad _ _ m,o,Zad _ _ o]
theorem ZAp(n:List UInt8)(t:Tbl):R K (.call 119 [Yk t,.ptr 0 0] (nmH n))=some (.bool (t.nm==n),nmH n):=by rw[ZuB];simp only[go_sem,simprocAttr,f119,Zc]
theorem ZBO(n:List UInt8)(t:Tbl):ZU nlA (R K) (nmH n) [Yk t] (.fn 119 [.ptr 0 0])=some (.bool (t.nm==n),nmH n):=by have b:=ZAp n t;simp only[Yk,Zc]at b ⊢;simp only[go_sem,simprocAttr,b]
theorem ZaE(x:List Tbl)(n:List UInt8)(b:x.length≤1000000):R K (.call 55 [ZX x,.str n] [])=some (I (ixN n (x.map (·.nm)) 0),[]):=by have hi:=Zhi (.fn 119 [.ptr 0 0]) (nmH n) n (QE n) x b (ZBO n);rw[ZxI];simp only[go_sem,simprocAttr,f55,hi]
theorem ZBs(n:List UInt8)(t:Col):R K (.call 292 [Jy t,.ptr 0 0] (nmH n))=some (.bool (t.nm==n),nmH n):=by rw[Zvw];simp only[go_sem,simprocAttr,f292,Zh]
theorem ZAZ(n:List UInt8)(t:Col):ZU nlA (R K) (nmH n) [Jy t] (.fn 292 [.ptr 0 0])=some (.bool (t.nm==n),nmH n):=by have b:=ZBs n t;simp only[Jy,Zh]at b ⊢;simp only[go_sem,simprocAttr,b]
theorem JC(t:Tbl)(n:List UInt8)(b:t.cols.length≤1000000):R K (.call 208 [Yk t,.str n] [])=some (I (ixN n (t.cols.map (·.nm)) 0),[]):=by have hi:=Ze1 (.fn 292 [.ptr 0 0]) (nmH n) n (QE n) t.cols b (ZAZ n);rw[ZtK];simp only[go_sem,simprocAttr,f208,Zc,hi]
theorem ZAI(n:List UInt8)(t:Idx):R K (.call 303 [Qe t,.ptr 0 0] (nmH n))=some (.bool (t.nm==n),nmH n):=by rw[Zxm];simp only[go_sem,simprocAttr,f303,Yq]
theorem ZAz(n:List UInt8)(t:Idx):ZU nlA (R K) (nmH n) [Qe t] (.fn 303 [.ptr 0 0])=some (.bool (t.nm==n),nmH n):=by have b:=ZAI n t;simp only[Qe,Yq]at b ⊢;simp only[go_sem,simprocAttr,b]
theorem ZhK(t:Tbl)(n:List UInt8)(b:t.idx.length≤1000000):R K (.call 218 [Yk t,.str n] [])=some (I (ixN n (t.idx.map (·.nm)) 0),[]):=by have hi:=ZkW (.fn 303 [.ptr 0 0]) (nmH n) (fun c=>c.nm==n) (QE n) t.idx b (fun c _=>ZAz n c);rw[Zgm (fun c:Idx=>c.nm) n]at hi;rw[Ztw];simp only[go_sem,simprocAttr,f218,Zc,hi]
theorem ZBN(n:List UInt8)(t:Fgn):R K (.call 305 [Wm t,.ptr 0 0] (nmH n))=some (.bool (t.nm==n),nmH n):=by rw[ZvT];simp only[go_sem,simprocAttr,f305,Z7]
theorem ZBw(n:List UInt8)(t:Fgn):ZU nlA (R K) (nmH n) [Wm t] (.fn 305 [.ptr 0 0])=some (.bool (t.nm==n),nmH n):=by have b:=ZBN n t;simp only[Wm,Z7]at b ⊢;simp only[go_sem,simprocAttr,b]
theorem Zfz(t:Tbl)(n:List UInt8)(b:t.fgn.length≤1000000):R K (.call 222 [Yk t,.str n] [])=some (I (ixN n (t.fgn.map (·.nm)) 0),[]):=by have hi:=Zmm (.fn 305 [.ptr 0 0]) (nmH n) (fun c=>c.nm==n) (QE n) t.fgn b (fun c _=>ZBw n c);rw[Zgm (fun c:Fgn=>c.nm) n]at hi;rw[ZtB];simp only[go_sem,simprocAttr,f222,Zc,hi]
theorem ZBj(n:List UInt8)(t:Idx):R K (.call 131 [Qe t,.ptr 0 0] (nmH n))=some (.bool (t.nm==n),nmH n):=by rw[ZwG];simp only[go_sem,simprocAttr,f131,Yq]
theorem ZAo(n:List UInt8)(t:Idx):ZU nlA (R K) (nmH n) [Qe t] (.fn 131 [.ptr 0 0])=some (.bool (t.nm==n),nmH n):=by have b:=ZBj n t;simp only[Qe,Yq]at b ⊢;simp only[go_sem,simprocAttr,b]
theorem ZhQ(t:Tbl)(n:List UInt8)(b:t.idx.length≤1000000):R K (.call 63 [Yk t,.str n] [])=some (.bool (t.idx.any fun c=>c.nm==n),[]):=by have hi:=Zh2 131 [.str n] rfl (fun c=>c.nm==n) t.idx b (fun c _=>ZAo n c);rw[Zzu];simp only[go_sem,simprocAttr,f63,Zc,hi]
theorem ZBq(n:List UInt8)(t:Fgn):R K (.call 132 [Wm t,.ptr 0 0] (nmH n))=some (.bool (t.nm==n),nmH n):=by rw[ZtR];simp only[go_sem,simprocAttr,f132,Z7]
theorem ZAc(n:List UInt8)(t:Fgn):ZU nlA (R K) (nmH n) [Wm t] (.fn 132 [.ptr 0 0])=some (.bool (t.nm==n),nmH n):=by have b:=ZBq n t;simp only[Wm,Z7]at b ⊢;simp only[go_sem,simprocAttr,b]
theorem ZeS(t:Tbl)(n:List UInt8)(b:t.fgn.length≤1000000):R K (.call 64 [Yk t,.str n] [])=some (.bool (t.fgn.any fun c=>c.nm==n),[]):=by have hi:=ZcW 132 [.str n] rfl (fun c=>c.nm==n) t.fgn b (fun c _=>ZAc n c);rw[ZxR];simp only[go_sem,simprocAttr,f64,Zc,hi]
abbrev kC(x:List Tbl)(c:Chg)(t:Tbl):List AV:=.rows (x.map Zc)::(Zb c++[.rptr (Zc t) 0])
theorem ZxH(x:List Tbl)(c:Chg)(t:Tbl)(f:Fgn):R K (.call 290 [Wm f,.ptr 0 0] [.cells [.rptr (kC x c t) 0]])=some (.bool (f.tb==c.tb),[.cells [.rptr (kC x c t) 0]]):=by rw[ZwT];simp only[go_sem,simprocAttr,f290,Z7,Zb]
theorem Zyf(x:List Tbl)(c:Chg)(t:Tbl)(f:Fgn):ZU nlA (R K) [.cells [.rptr (kC x c t) 0]] [Wm f] (.fn 290 [.ptr 0 0])=some (.bool (f.tb==c.tb),[.cells [.rptr (kC x c t) 0]]):=by have b:=ZxH x c t f;simp only[Wm,Z7]at b ⊢;simp only[go_sem,simprocAttr,b]
theorem ZBz(x:List Tbl)(c:Chg)(t:Tbl)(b:List UInt8)(u:Tbl)(m:u.fgn.length≤1000000):R K (.call 289 [Yk u,.ptr 0 0,.ptr 1 0] [.cells [.str b],.cells [.rptr (kC x c t) 0]])=some (.bool (!(u.nm==b)&&u.fgn.any fun f=>f.tb==c.tb),[.cells [.str b],.cells [.rptr (kC x c t) 0]]):=by
 have o:=ZcW 290 [.rptr (kC x c t) 0] rfl (fun f=>f.tb==c.tb) u.fgn m (fun f _=>Zyf x c t f);by_cases e:u.nm=b
 ·have:(u.nm==b)=true:=by simpa using e
  rw[ZnI];simp only[go_sem,simprocAttr,f289,Zc,this]
  done
 have:(u.nm==b)=false:=by simpa using e
 rw[ZnI];simp only[go_sem,simprocAttr,f289,Zc,o,this]
 done
theorem ZAk(x:List Tbl)(c:Chg)(t:Tbl)(b:List UInt8)(u:Tbl)(m:u.fgn.length≤1000000):ZU nlA (R K) [.cells [.str b],.cells [.rptr (kC x c t) 0]] [Yk u] (.fn 289 [.ptr 0 0,.ptr 1 0])=some (.bool (!(u.nm==b)&&u.fgn.any fun f=>f.tb==c.tb),[.cells [.str b],.cells [.rptr (kC x c t) 0]]):=by have e:=ZBz x c t b u m;simp only[Yk,Zc]at e ⊢;simp only[go_sem,simprocAttr,e]
def ZiV(x:List Tbl)(but n:List UInt8):Bool:=x.any fun u=>!(u.nm==but)&&u.fgn.any fun f=>f.tb==n
theorem ZhG(x:List Tbl)(e:FitX x)(c:Chg)(t:Tbl)(b:List UInt8):R K (.call 203 [.rptr (kC x c t) 0,.str b] [])=some (.bool (ZiV x b c.tb),[]):=by
 have m:=ZmN 289 [.str b] [.rptr (kC x c t) 0] rfl rfl (fun u=>!(u.nm==b)&&u.fgn.any fun f=>f.tb==c.tb) x e.len (fun u o=>ZAk x c t b u (e.tbl u o).fgn);rw[Zv0];simp only[go_sem,simprocAttr,f203,m,ZiV]
 done
theorem ZDZ(n:List UInt8)(f:Fgn)(b:f.cols.length≤1000000):R K (.call 293 [Wm f,.ptr 0 0] (nmH n))=some (.bool (f.cols.contains n),nmH n):=by have e:=YR n f.cols b;rw[Zs3];simp only[go_sem,simprocAttr,f293,Z7,e]
theorem ZEF(n:List UInt8)(f:Fgn)(e:f.cols.length≤1000000):ZU nlA (R K) (nmH n) [Wm f] (.fn 293 [.ptr 0 0])=some (.bool (f.cols.contains n),nmH n):=by have b:=ZDZ n f e;simp only[Wm,Z7]at b ⊢;simp only[go_sem,simprocAttr,b]
theorem ZDK(n:List UInt8)(f:Idx)(b:f.cols.length≤1000000):R K (.call 294 [Qe f,.ptr 0 0] (nmH n))=some (.bool (f.cols.contains n),nmH n):=by have e:=YR n f.cols b;rw[ZvG];simp only[go_sem,simprocAttr,f294,Yq,e]
theorem ZEr(n:List UInt8)(f:Idx)(e:f.cols.length≤1000000):ZU nlA (R K) (nmH n) [Qe f] (.fn 294 [.ptr 0 0])=some (.bool (f.cols.contains n),nmH n):=by have b:=ZDK n f e;simp only[Qe,Yq]at b ⊢;simp only[go_sem,simprocAttr,b]
theorem ZDc(n:List UInt8)(f:Fgn)(b:f.cols.length≤1000000):R K (.call 232 [Wm f,.ptr 0 0] (nmH n))=some (.bool (f.cols.contains n),nmH n):=by have e:=YR n f.cols b;rw[Zxf];simp only[go_sem,simprocAttr,f232,Z7,e]
theorem ZC9(n:List UInt8)(f:Fgn)(e:f.cols.length≤1000000):ZU nlA (R K) (nmH n) [Wm f] (.fn 232 [.ptr 0 0])=some (.bool (f.cols.contains n),nmH n):=by have b:=ZDc n f e;simp only[Wm,Z7]at b ⊢;simp only[go_sem,simprocAttr,b]
theorem ZCX(n:List UInt8)(f:Idx)(b:f.cols.length≤1000000):R K (.call 233 [Qe f,.ptr 0 0] (nmH n))=some (.bool (f.cols.contains n),nmH n):=by have e:=YR n f.cols b;rw[Zwc];simp only[go_sem,simprocAttr,f233,Yq,e]
theorem ZCT(n:List UInt8)(f:Idx)(e:f.cols.length≤1000000):ZU nlA (R K) (nmH n) [Qe f] (.fn 233 [.ptr 0 0])=some (.bool (f.cols.contains n),nmH n):=by have b:=ZCX n f e;simp only[Qe,Yq]at b ⊢;simp only[go_sem,simprocAttr,b]
def inF(t:Tbl)(n:List UInt8):Bool:=t.fgn.any fun f=>f.cols.contains n
def inI(t:Tbl)(n:List UInt8):Bool:=t.idx.any fun f=>f.cols.contains n
theorem ZgF(x:List Tbl)(c:Chg)(t:Tbl)(b:FitT t)(n:List UInt8):R K (.call 210 [.rptr (kC x c t) 0,.str n] [])=some (.bool (inF t n),[]):=by
 have e:=ZcW 293 [.str n] rfl (fun f=>f.cols.contains n) t.fgn b.fgn (fun f m=>ZEF n f (b.fg f m).2);rw[Zw5];simp only[go_sem,simprocAttr,f210,Zb,Zc,e,inF]
 done
theorem ZrN(x:List Tbl)(c:Chg)(t:Tbl)(b:FitT t)(n:List UInt8):R K (.call 211 [.rptr (kC x c t) 0,.str n] [])=some (.bool (inI t n),[]):=by
 have e:=Zh2 294 [.str n] rfl (fun f=>f.cols.contains n) t.idx b.idx (fun f m=>ZEr n f (b.ix f m).2);rw[Zu0];simp only[go_sem,simprocAttr,f211,Zb,Zc,e,inI]
 done
theorem Zms(t:Tbl)(b:FitT t)(n:List UInt8):R K (.call 133 [Yk t,.str n] [])=some (.tup [.bool (t.key.contains n),.bool (inF t n),.bool (inI t n)],[]):=by
 have m:=YR n t.key b.key;have h2:=ZcW 232 [.str n] rfl (fun f=>f.cols.contains n) t.fgn b.fgn (fun f e=>ZC9 n f (b.fg f e).2);have h3:=Zh2 233 [.str n] rfl (fun f=>f.cols.contains n) t.idx b.idx (fun f e=>ZCT n f (b.ix f e).2);rw[ZuN];simp only[go_sem,simprocAttr,f133,Zc,m,h2,h3,inF,inI]
 done
theorem Zx2(n:List UInt8)(f:Fgn):R K (.call 128 [Wm f,.ptr 0 0] (nmH n))=some (.bool (f.tb==n),nmH n):=by rw[ZuO];simp only[go_sem,simprocAttr,f128,Z7]
theorem Zy3(n:List UInt8)(f:Fgn):ZU nlA (R K) (nmH n) [Wm f] (.fn 128 [.ptr 0 0])=some (.bool (f.tb==n),nmH n):=by have b:=Zx2 n f;simp only[Wm,Z7]at b ⊢;simp only[go_sem,simprocAttr,b]
theorem ZAN(own:Bool)(n:List UInt8)(u:Tbl)(m:u.fgn.length≤1000000):R K (.call 126 [Yk u,.ptr 0 0,.ptr 1 0] [.cells [.bool own],.cells [.str n]])=some (.bool ((own||!(u.nm==n))&&u.fgn.any fun f=>f.tb==n),[.cells [.bool own],.cells [.str n]]):=by
 have b:=ZcW 128 [.str n] rfl (fun f=>f.tb==n) u.fgn m (fun f _=>Zy3 n f);cases own
 ·by_cases e:u.nm=n
  ·have:(u.nm==n)=true:=by simpa using e
   rw[ZhZ];simp only[go_sem,simprocAttr,f126,Zc,this]
   done
  have:(u.nm==n)=false:=by simpa using e
  rw[ZhZ];simp only[go_sem,simprocAttr,f126,Zc,b,this]
  done
 rw[ZhZ];simp only[go_sem,simprocAttr,f126,Zc,b]
 done
theorem ZBJ(own:Bool)(n:List UInt8)(u:Tbl)(e:u.fgn.length≤1000000):ZU nlA (R K) [.cells [.bool own],.cells [.str n]] [Yk u] (.fn 126 [.ptr 0 0,.ptr 1 0])=some (.bool ((own||!(u.nm==n))&&u.fgn.any fun f=>f.tb==n),[.cells [.bool own],.cells [.str n]]):=by have b:=ZAN own n u e;simp only[Yk,Zc]at b ⊢;simp only[go_sem,simprocAttr,b]
theorem ZhI(x:List Tbl)(b:FitX x)(n:List UInt8)(own:Bool):R K (.call 61 [ZX x,.str n,.bool own] [])=some (.bool (x.any fun u=>(own||!(u.nm==n))&&u.fgn.any fun f=>f.tb==n),[]):=by
 have e:=ZmN 126 [.bool own] [.str n] rfl rfl (fun u=>(own||!(u.nm==n))&&u.fgn.any fun f=>f.tb==n) x b.len (fun u m=>ZBJ own n u (b.tbl u m).fgn);rw[Zxv];simp only[go_sem,simprocAttr,f61,e]
 done
attribute [-go_sem] Zy Zs ZH Z1 ZL Yd
theorem ZbC{h:Za}{P:Nat→Prop}(m:∀l b,P l→h[l]?=some b→∀x∈ZA b,P x):∀(n:Nat) (ls s:List Nat),(∀l∈ls,P l)→(∀l∈s,P l)→∀l∈Y7 h n ls s,P l
 |0,_,s,_,hs| _+1,[],s,_,hs=>hs
 |n+1,l::r,s,o,hs=>by
  have q:P l:=o l VV;have h2:∀x∈r,P x:=fun x e=>o x (VD _ e);have h3:∀x∈s++[l],P x:=fun x e=>by
   rcases Vg.1 e with e|e
   ·exact hs x e
   rw[VH.1 e];exact q
  unfold Y7;split
  ·exact ZbC m n r s h2 hs
  cases u:h[l]? with
  |none=>exact ZbC m n r (s++[l]) h2 h3
  |some b =>
   refine ZbC m n (r++ZA b) (s++[l]) (fun x e=>?_) h3;rcases Vg.1 e with e|e
   ·exact h2 x e
   exact m l b q u x e
theorem Zbm{h:Za}:∀{T:List Nat},(∀l∈T,eqB h[l]? h[l]?=true)→chg h h T=[]
 |[],_=>rfl
 |l::T,e=>by simp only[chg,e l VV,V7,Zbm (T:=T) fun x b=>e x (VD _ b)]
theorem Zoj(k:IntKind):eqK k k=true:=by simp[eqK]
theorem Jk{α:Type}{f:α→List AV}(b:∀a,eqL (f a) (f a)=true):∀l:List α,eqR (l.map f) (l.map f)=true
 |[]=>by simp[eqR]
 |a::l=>by simp only[Vz,eqR,b a,Jk b l,Pc]
theorem XU:∀l:List (List UInt8),eqR (SLs l) (SLs l)=true:=Jk fun a=>by simp[eqL,eqA]
theorem Zak:∀l:List Col,eqR (l.map Zh) (l.map Zh)=true:=Jk fun a=>by simp[Zh,eqL,eqA,Zoj]
theorem Zjj:∀l:List Fgn,eqR (l.map Z7) (l.map Z7)=true:=Jk fun a=>by simp[Z7,eqL,eqA,XU]
theorem ZhY:∀l:List Idx,eqR (l.map Yq) (l.map Yq)=true:=Jk fun a=>by simp[Yq,eqL,eqA,XU]
theorem Zm3(o:Option Nat)(c:List (List UInt8)):eqA (Yc o c) (Yc o c)=true:=by cases o<;>simp[Yc,eqA,XU]
theorem Zi1:∀l:List LF,eqR (l.map ZF) (l.map ZF)=true:=Jk fun a=>by simp[ZF,eqL,eqA,Zm3]
theorem Zig:∀l:List LI,eqR (l.map ZJ) (l.map ZJ)=true:=Jk fun a=>by simp[ZJ,eqL,eqA,Zm3]
theorem ZmS:∀l:List LT,eqR (l.map Zn) (l.map Zn)=true:=Jk fun a=>by simp[Zn,eqL,eqA]
theorem ZqA(c:Chg):eqL (Zb c) (Zb c)=true:=by simp[Zb,eqL,eqA,Zoj,XU,Zak,Zjj,ZhY]
theorem Zqx:∀{a b:List AV},eqL a a=true→eqL b b=true→eqL (a++b) (a++b)=true
 |[],_,_,e=>e
 |x::a,b,m,e=>by simp only[eqL,VA]at m;simp only[Vl,eqL,m.1,Zqx m.2 e,Pc]
theorem Yy{rs:List (List AV)}{x:Nat}:x∈Zz rs→∃row∈rs,x∈Zg row:=by
 induction rs with
 |nil=>intro h;simp[Zz]at h
 |cons row rs b =>
  intro h;rcases Vg.1 (show x∈Zg row++Zz rs from h)with h|h
  ·exact⟨row,VV,h⟩
  obtain⟨r,e,m⟩:=b h;exact⟨r,VD _ e,m⟩
theorem HT.at{h:Za}(s:HT h t)(A:l∈t.pl):∃b,h[l]?=some b∧eqB h[l]? h[l]?=true∧∀x∈ZA b,x∈t.pl:=by
 have r:∀{b:Blk},h[l]?=some b→(eqB (some b) (some b)=true∧∀x∈ZA b,x∈t.pl)→∃b,h[l]?=some b∧eqB h[l]? h[l]?=true∧∀x∈ZA b,x∈t.pl:=fun{b} e q=>⟨b,e,by rw[e];exact q.1,q.2⟩;simp only[LT.pl,Vn,Vg,VG]at A;rcases A with rfl|rfl|rfl|rfl|⟨a,u,e⟩|⟨a,u,e⟩
 ·exact r s.c ⟨by simp[eqB,Zak],fun x m=>by simp[ZA,Zw]at m⟩
 ·exact r s.k ⟨by simp[eqB,XU],fun x m=>by simp[ZA,Zv]at m⟩
 ·refine r s.f ⟨by simp[eqB,Zi1],fun x m=>?_⟩;obtain⟨row,w,m⟩:=Yy (show x∈Zz (t.fs.map ZF)from m);obtain⟨a,u,rfl⟩:=VE.1 w;cases o:a.l with
  |none=>simp[ZF,Yc,o,Zg,locs]at m
  |some l =>
   simp[ZF,Yc,o,Zg,locs]at m;subst m;simp only[LT.pl,Vn,Vg,VG];exact .inr (.inr (.inr (.inr (.inl ⟨a,u,o⟩))))
 ·refine r s.i ⟨by simp[eqB,Zig],fun x m=>?_⟩;obtain⟨row,w,m⟩:=Yy (show x∈Zz (t.is.map ZJ)from m);obtain⟨a,u,rfl⟩:=VE.1 w;cases o:a.l with
  |none=>simp[ZJ,Yc,o,Zg,locs]at m
  |some l =>
   simp[ZJ,Yc,o,Zg,locs]at m;subst m;simp only[LT.pl,Vn,Vg,VG];exact .inr (.inr (.inr (.inr (.inr ⟨a,u,o⟩))))
 ·exact r (s.fc a u l e) ⟨by simp[eqB,XU],fun x m=>by simp[ZA,Zv]at m⟩
 exact r (s.ic a u l e) ⟨by simp[eqB,XU],fun x m=>by simp[ZA,Zv]at m⟩
theorem HT.quiet{h:Za}(s:HT h t)(n:Nat){ls:List Nat}(o:∀l∈ls,l∈t.pl):chg h h (Y7 h n ls [])=[] :=
 Zbm fun l m=>by
  have:=ZbC (P:=fun l=>l∈t.pl) (fun l b r u x w=>by obtain⟨b',e,_,q⟩:=s.at r;rw[u]at e;cases e;exact q x w) n ls [] o (by simp) l m
  obtain⟨_,_,q,_⟩:=s.at this;exact q
structure SchAt(h:Za)(lt:Nat)(X:List LT):Prop where
 tb:h[lt]?=some (.rows 5 (X.map Zn) true)
 ht:∀T∈X,HT h T
 ap:(lt::X.flatMap LT.pl).Nodup
abbrev kcC(lt n i:Nat)(c:Chg):List AV:=.own lt n::(Zb c++[.optr lt n i 0])
theorem QF{h:Za}{kc:Nat}{c:Chg}(hs:SchAt h lt X)(w:h[kc]?=some (.cells (kcC lt X.length i c)))(hi:X[i]?=some T)(B:T.cols.length≤1000000){m:Int}(C:ixN c.nm (T.cols.map (·.nm)) 0=m)(a:AV)
  (D:(m<0∧a=.nilp)∨∃(j:Nat) (col:Col),m=(j:Int)∧T.cols[j]?=some col∧a=.optr T.lc T.cols.length j 0) :
  R K (.call 209 [.ptr kc 0] h)=some (a,h):=by
 have b:=hs.ht T (Ve hi);have A:=hs.tb;have e:(X.map Zn)[i]?=some (Zn T):=by rw[Vj,hi];rfl
 have o:=JC T.tbl c.nm B;rw[show(T.tbl.cols.map (·.nm))=T.cols.map (·.nm)from rfl,C]at o;have r:=XO b.seen [.str c.nm] [.str c.nm] rfl;have q:=b.quiet 100 (ls:=[T.lc,T.lk,T.lf,T.li]) (by simp[LT.pl]);simp only[Zn]at e r;rw[ZwZ];rcases D with⟨u,rfl⟩|⟨j,col,rfl,E,rfl⟩
 ·simp only[go_sem,simprocAttr,f209,w,Zb,A,e,r,o,u,b.c,b.k,b.f,b.i,Ub,ZB,Zf,Vd]
 have u:¬((j:Int)<0):=by omega
 have F:=Ym E;simp only[go_sem,simprocAttr,f209,w,Zb,A,e,F,r,o,u,b.c,b.k,b.f,b.i,Ub,ZB,Zf,Vd,Vk]
mutual
theorem Zlt{σ:Nat→Nat}:∀a:AV,(∀x∈locs a,σ x=x)→ren σ a=a
 |.ptr l _,h|.own l _,h|.optr l _ _ _,h|.mp l,h|.tptr _ l _,h|.town _ l _,h|.vw l _ _ _,h=>by have:=h l (by simp[locs]);simp only[ren,this]
 |.agg cs,h|.tup cs,h|.fn _ cs,h|.bnd _ cs,h=>by simp only[ren,Zdh cs (by simpa[locs]using h)]
 |.iface _ a,h=>by simp only[ren,Zlt a (by simpa[locs]using h)]
 |.nilp,_|.nilf,_|.nili,_|.nilm,_|.emp _,_|.int _ _,_|.bool _,_|.str _,_|.rows _,_|.nils,_|.rptr _ _,_|.lit _,_|.any,_=>rfl
theorem Zdh{σ:Nat→Nat}:∀cs:List AV,(∀x∈Zg cs,σ x=x)→Xl σ cs=cs
 |[],_=>rfl
 |a::r,h=>by have e:∀x∈locs a,σ x=x:=fun x b=>h x (Vg.2 (.inl b));have h2:∀x∈Zg r,σ x=x:=fun x b=>h x (Vg.2 (.inr b));simp only[Xl,Zlt a e,Zdh r h2]
end
theorem Zl0{σ:Nat→Nat}:∀rs:List (List AV),(∀x∈Zz rs,σ x=x)→XN σ rs=rs
 |[],_=>rfl
 |a::r,h=>by have e:∀x∈Zg a,σ x=x:=fun x b=>h x (Vg.2 (.inl b));have h2:∀x∈Zz r,σ x=x:=fun x b=>h x (Vg.2 (.inr b));simp only[XN,Zdh a e,Zl0 r h2]
theorem ZeO{σ:Nat→Nat}(b:Blk)(h:∀x∈ZA b,σ x=x):YY σ b=b:=by
 cases b with
 |cells cs=>simp only[YY,Zdh cs h]
 |rows z rs w=>simp only[YY,Zl0 rs h]
 |hole| map es=>rfl
theorem Y5{h:Za}{b:Blk}(e:h[l]?=some b):∀x∈ZA b,x∈Zk h:=by
 induction h generalizing l with
 |nil=>simp at e
 |cons a h o =>
  intro x m;cases l with
  |zero =>
   simp only[Vt,Va]at e;subst e;exact Vg.2 (.inl m)
  |succ l=>exact Vg.2 (.inr (o (l:=l) (by simpa using e) x m))
theorem ZgZ:∀(n s i:Nat),i<n→YQ (List.range' s n) (s+i)=i
 |0,_,_,h=>by omega
 |n+1,s,0,_=>by simp[Sl,YQ]
 |n+1,s,i+1,h=>by have:=ZgZ n (s+1) i (by omega);rw[show s+1+i=s+(i+1)by omega]at this;simp only[Sl,YQ,this];rw[Vm (by omega)]
theorem Zj8{n:Nat}(h:i<n):YQ (List.range n) i=i:=by
 have:=ZgZ n 0 i h
 rwa [VZ,←UZ]at this
theorem Zgj{h:Za}{σ:Nat→Nat}(m:∀(l:Nat) (b:Blk),h[l]?=some b→YY σ b=b):∀(n s:Nat),s+n≤h.length→sub h σ (List.range' s n)=some ((h.drop s).take n)
 |0,s,_=>by simp[sub]
 |n+1,s,o=>by have e:h[s]?=some h[s]:=VB (by omega);simp only[Sl,sub,e,m s _ e,Zgj m n (s+1) (by omega)];rw[List.drop_eq_getElem_cons (by omega:s<h.length),UH]
theorem Zee{σ:Nat→Nat}:∀(n s:Nat) (hs h:Za),hs.length=n→s+n≤h.length→(∀b∈hs,YY σ b=b)→back σ (List.range' s n) hs h=h.take s++hs++h.drop (s+n)
 |0,s,hs,h,e,_,_=>by have:hs=[]:=VS.1 e;subst this;simp[back]
 |n+1,s,[],h,e,_,_=>by simp at e
 |n+1,s,b::hs,h,e,r,m=>by
  simp only[Sl,back,m b VV];rw[Zee n (s+1) hs (h.set s b) (by simpa using e) (by simp;omega) (fun b' h'=>m b' (VD _ h'))];have o:(h.set s b).take (s+1)=h.take s++[b]:=by rw[Sd,List.take_set_of_le (Vw s),Vf (by omega)];rfl
  have q:(h.set s b).drop (s+1+n)=h.drop (s+(n+1)):=by rw[List.drop_set_of_lt (by omega),show s+1+n=s+(n+1)by omega]
  rw[o,q];simp
theorem ZmW{F:Tk→Res}{f:FuncId}{g t g':Za}{N:Nat}{args:List AV}{r:AV}(u:g.length=N)(D:Zi N (Zk g)=true)(w:Zi N (Zg args)=true)(e:F (.call f args g)=some (r,g'))(q:g'.length=N)(E:Zi N (locs r)=true)(A:Zi N (Zk g')=true):
  Z0 F f (g++t) (List.range N) args=some (r,g'++t):=by
 have B:∀{ls:List Nat},Zi N ls=true→∀x∈ls,YQ (List.range N) x=x:=fun h x m=>Zj8 (Zt.1 h x m);have fo:∀{ls:List Nat},Zi N ls=true→∀x∈ls,ZO (List.range N) (g++t).length x=x:=fun h x m=>by have C:=Zt.1 h x m;simp[ZO,C]
 have C:(Zg args).map (YQ (List.range N))=Zg args:=by
  conv=>rhs;rw[←PX (Zg args)]
  exact Ul (fun x m=>B w x m)
 have hs:sub (g++t) (YQ (List.range N)) (List.range N)=some g:=by
  have key:sub g (YQ (List.range N)) (List.range N)=some g:=by
   conv=>lhs;rw[UZ]
   rw[Zgj (fun l b o=>ZeO b fun x m=>by rw[←UZ];exact B D x (Y5 o x m)) N 0 (by omega),Ui,←u,ST]
  have more:∀(σ:Nat→Nat) (ls:List Nat),(∀l∈ls,l<N)→sub (g++t) σ ls=sub g σ ls:=fun σ ls=>by
   induction ls with
   |nil=>intro _;rfl
   |cons l ls G =>
    intro h;simp only[sub,Vh (show l<g.length by rw[u];exact h l VV),G fun x m=>h x (VD _ m)]
  rw[more _ _ (fun l q=>S5.1 q),key]
 have o:back (ZO (List.range N) (g++t).length) (List.range N) g' (g++t)=g'++t:=by
  have key:=Zee (σ:=ZO (List.range N) (g++t).length) N 0 g' (g++t) q (by simp;omega) (fun b o=>by obtain⟨l,o⟩:=Uf.1 o;exact ZeO b fun x m=>fo A x (Y5 o x m))
  rw[←UZ]at key;rw[key,Sp,Vi,VZ,←u,List.drop_left]
 unfold Z0;rw[SH,C,Vr w,hs];simp only[D,V7,Zdh args (B w),e,WZ,SH,q,Zlt r (fo E),o]
attribute [-go_sem] Z0
structure Shut(h:Za):Prop where
 cl:Zi h.length (Zk h)=true
 eq:∀l,l<h.length→eqB h[l]? h[l]?=true
theorem Shut.quiet(s:Shut h)(t:Za):chg (h++t) (h++t) (List.range h.length)=[]:=Zbm fun l b=>by have:=S5.1 b;rw[Vh this];exact s.eq l this
theorem SchAt.app{h:Za}{lt:Nat}{X:List LT}(s:SchAt h lt X)(g:Za):SchAt (h++g) lt X:=⟨gL s.tb g,fun T b=>(s.ht T b).app g,s.ap⟩
theorem SchAt.seen{h:Za}{lt:Nat}{X:List LT}(s:SchAt h lt X):SeenX h (.own lt X.length) (X.map LT.tbl):=⟨_,.own lt 5 _ _ true s.tb (by simp),Both.map fun T b=>(s.ht T b).seen⟩
theorem SchAt.snap{h:Za}(s:SchAt h lt X)(r r':List AV)(b:Zs (Zy 7 h) h r=some r'):Zy 8 h (.agg [.own lt X.length]::r)=some (ZX (X.map LT.tbl)::r'):=ZeN s.seen r r' b
theorem ZaD{h:Za}{l:List (List UInt8)}(s:Lst h a (SLs l))(r r':List AV)(b:Zs (Zy 7 h) h r=some r'):Zy 8 h (a::r)=some (.rows (SLs l)::r'):=by have e:=s.names (f:=Zy 7 h);show Zs (Zy 7 h) h (a::r)=_;simp only[Zs,e,b]
theorem Ziy{h:Za}{f:List AV→Option (List AV)}:∀{a a' b b':List AV},Zs f h a=some a'→Zs f h b=some b'→Zs f h (a++b)=some (a'++b')
 |[],a',b,b',e,h2=>by simp only[Zs,Va]at e;subst e;exact h2
 |x::a,a',b,b',e,h2=>by
  simp only[Zs]at e;split at e
  ·rename_i q m;split at e
   ·rename_i r o;simp only[Va]at e;subst e;simp only[Vl,Zs,m,Ziy o h2]
   simp at e
  simp at e
theorem ZtP(c:Chg):Zs f h (Zb c)=some (Zb c):=rfl
theorem SchAt.snapK{h:Za}{kc:Nat}{c:Chg}(s:SchAt h lt X)(b:h[kc]?=some (.cells (kcC lt X.length i c)))(hi:X[i]?=some T)(r r':List AV)(e:Zs (Zy 7 h) h r=some r'):Zy 8 h (.ptr kc 0::r)=some (.rptr (kC (X.map LT.tbl) c T.tbl) 0::r'):=by
 have m:ZH (Zy 6 h) h (.own lt X.length)=some (.rows ((X.map LT.tbl).map Zc)):=s.seen.snap 4;have o:ZH (Zy 6 h) h (.optr lt X.length i 0)=some (.rptr (Zc T.tbl) 0):=by
  have q:(X.map Zn)[i]?=some (Zn T):=by rw[Vj,hi];rfl
  simp only[ZH,s.tb,Vd,V7,q,(s.ht T (Ve hi)).seen.ok 4]
 have u:Zy 7 h (kcC lt X.length i c)=some (kC (X.map LT.tbl) c T.tbl):=by show Zs (Zy 6 h) h (.own lt X.length::(Zb c++[.optr lt X.length i 0]))=_;have:=Ziy (h:=h) (f:=Zy 6 h) (ZtP c) (show Zs (Zy 6 h) h [.optr lt X.length i 0]=some [.rptr (Zc T.tbl) 0]by simp only[Zs,o]);simp only[Zs,m,this]
 have w:Yd (kcC lt X.length i c) (Zy 7 h (kcC lt X.length i c))=some (kC (X.map LT.tbl) c T.tbl):=by rw[u];rfl
 show Zs (Zy 7 h) h (.ptr kc 0::r)=_;simp only[Zs,ZH,b,w,e]
section
variable{h:Za}{kc lt i:Nat}{X:List LT}{T:LT}{c:Chg}
theorem Ztn(hs:SchAt h lt X)(b:Shut h)(e:h[kc]?=some (.cells (kcC lt X.length i c)))(hi:X[i]?=some T)(r:T.cols.length≤1000000)(u:ixN c.nm (T.cols.map (·.nm)) 0<0):
  R K (.call 122 [.ptr kc 0] h)=some (I 5,h++[.cells (Zb c)]):=by
 have m:=(Vb.1 e).1;have w:=fun t=>ZmW (F:=R K) (t:=t) (g:=h) rfl b.cl (args:=[.ptr kc 0]) (by simp[Zg,locs,Zi,m]) (QF hs e hi r rfl .nilp (.inl ⟨u,rfl⟩)) rfl rfl b.cl;have q:=b.quiet;have o:h.length=h.length:=rfl;rw[ZcY];simp only[go_sem,simprocAttr,f122,gL e,Zb,w,q,ZB,Zf,gA0 o,sA0 o]
theorem ZmC(hs:SchAt h lt X)(o:Shut h)(u:h[kc]?=some (.cells (kcC lt X.length i c)))(hi:X[i]?=some T)(H:FitT T.tbl){j:Nat}(O:ixN c.nm (T.cols.map (·.nm)) 0=(j:Int))(A:T.cols[j]?=some col)(r:c.kd=8):
  R K (.call 122 [.ptr kc 0] h)=(if T.key.contains c.nm=true then some (I 11,h++[.cells (Zb c)])else if col.nl=true then some (I 17,h++[.cells (Zb c)])else some (I 0,h.set T.lc (.rows 6 ((T.cols.set j {col with nl:=true}).map Zh) true)++[.cells (Zb c)])):=by
 have D:=(Vb.1 u).1;have m:=hs.ht T (Ve hi);have E:=(Vb.1 m.c).1;have w:=fun t=>ZmW (F:=R K) (t:=t) (g:=h) rfl o.cl (args:=[.ptr kc 0]) (by simp[Zg,locs,Zi,D]) (QF hs u hi H.cols rfl (.optr T.lc T.cols.length j 0) (.inr ⟨j,col,O,A,rfl⟩)) rfl (by simp[locs,Zi,E]) o.cl;have q:=o.quiet;have B:h.length=h.length:=rfl;have G:(X.map Zn)[i]?=some (Zn T):=by rw[Vj,hi];rfl
 simp only[Zn]at G;have J:=YR c.nm T.key H.key;have L:=fun t=>ZaD (.own T.lk 1 T.key.length _ true ((m.app t).k) (Yh _)) [.str c.nm] [.str c.nm] rfl;have Y:=Ym A;have C:(T.cols.map Zh)[j]?=some (Zh col):=by rw[Vj,A];rfl
 simp only[Zh]at C;have M:∀(a:List UInt8) (b:Int) (d:Bool) (e f:Int) (g:List UInt8),(T.cols.map Zh).set j [.str a,I b,.bool d,I e,I f,.str g]=(T.cols.set j ⟨a,b,d,⟨e,f,g⟩⟩).map Zh:=fun a b d e f g=>by rw[V9];rfl
 have Z:∀b:Blk,T.lc<h.length→(h.set T.lc b)[T.lc]?=some b:=fun b P=>Vf P;have ss:∀b b':Blk,(h.set T.lc b).set T.lc b'=h.set T.lc b':=fun b b'=>Uq ..;have lS:∀b:Blk,(h.set T.lc b).length=h.length:=fun b=>Vq;have Q:∀(a a':Col),(T.cols.set j a).set j a'=T.cols.set j a':=fun a a'=>Uq ..;have S:∀a:Col,((T.cols.set j a).map Zh)[j]?=some (Zh a):=fun a=>by rw[Vj,Vf (Vb.1 A).1];rfl
 simp only[Zh]at S;have sD:∀(a0:Col) (a:List UInt8) (b:Int) (d:Bool) (e f:Int) (g:List UInt8),((T.cols.set j a0).map Zh).set j [.str a,I b,.bool d,I e,I f,.str g]=(T.cols.set j ⟨a,b,d,⟨e,f,g⟩⟩).map Zh:=fun a0 a b d e f g=>by have:=V9 (f:=Zh) (l:=T.cols.set j a0) (i:=j) (a:=⟨a,b,d,⟨e,f,g⟩⟩);rw[Q]at this;exact this.symm
 rw[ZcY];cases U:col.nl
 all_goals
  try simp only[U]at C
  simp only[go_sem,simprocAttr,f122,r,gL u,gL hs.tb,G,L,J,gL m.c,gL m.k,sL m.c,C,M,Zb,w,q,ZB,Zf,Vd,gA0 B,sA0 B,Ub]
  repeat' ((first|apply ZG|apply ZK|apply ZT)<;>intro W<;>simp only[W,go_sem,simprocAttr,f122,r,gL u,gL hs.tb,G,L,J,gL m.c,gL m.k,sL m.c,C,M,Zb,w,q,ZB,Zf,Vd,gA0 B,sA0 B,Ub])
  try split
  all_goals simp_all
theorem Zr1(hs:SchAt h lt X)(m:Shut h)(u:h[kc]?=some (.cells (kcC lt X.length i c)))(hi:X[i]?=some T)(L:FitT T.tbl){j:Nat}(P:ixN c.nm (T.cols.map (·.nm)) 0=(j:Int))(A:T.cols[j]?=some col)(r:c.kd=10):
  R K (.call 122 [.ptr kc 0] h)=(if QA col.kd c.col.df=0 then some (I 0,h.set T.lc (.rows 6 ((T.cols.set j {col with df:=c.col.df}).map Zh) true)++[.cells (Zb c)])else some (I (QA col.kd c.col.df),h++[.cells (Zb c)])):=by
 have D:=(Vb.1 u).1;have o:=hs.ht T (Ve hi);have E:=(Vb.1 o.c).1;have w:=fun t=>ZmW (F:=R K) (t:=t) (g:=h) rfl m.cl (args:=[.ptr kc 0]) (by simp[Zg,locs,Zi,D]) (QF hs u hi L.cols rfl (.optr T.lc T.cols.length j 0) (.inr ⟨j,col,P,A,rfl⟩)) rfl (by simp[locs,Zi,E]) m.cl;have q:=m.quiet;have B:h.length=h.length:=rfl;have G:(X.map Zn)[i]?=some (Zn T):=by rw[Vj,hi];rfl
 simp only[Zn]at G;have M:=YR c.nm T.key L.key;have O:=fun t=>ZaD (.own T.lk 1 T.key.length _ true ((o.app t).k) (Yh _)) [.str c.nm] [.str c.nm] rfl;have Y:=Ym A;have H:(T.cols.map Zh)[j]?=some (Zh col):=by rw[Vj,A];rfl
 simp only[Zh]at H;have Q:∀(a:List UInt8) (b:Int) (d:Bool) (e f:Int) (g:List UInt8),(T.cols.map Zh).set j [.str a,I b,.bool d,I e,I f,.str g]=(T.cols.set j ⟨a,b,d,⟨e,f,g⟩⟩).map Zh:=fun a b d e f g=>by rw[V9];rfl
 have Z:∀b:Blk,T.lc<h.length→(h.set T.lc b)[T.lc]?=some b:=fun b S=>Vf S;have ss:∀b b':Blk,(h.set T.lc b).set T.lc b'=h.set T.lc b':=fun b b'=>Uq ..;have lS:∀b:Blk,(h.set T.lc b).length=h.length:=fun b=>Vq;have U:∀(a a':Col),(T.cols.set j a).set j a'=T.cols.set j a':=fun a a'=>Uq ..;have W:∀a:Col,((T.cols.set j a).map Zh)[j]?=some (Zh a):=fun a=>by rw[Vj,Vf (Vb.1 A).1];rfl
 simp only[Zh]at W;have sD:∀(a0:Col) (a:List UInt8) (b:Int) (d:Bool) (e f:Int) (g:List UInt8),((T.cols.set j a0).map Zh).set j [.str a,I b,.bool d,I e,I f,.str g]=(T.cols.set j ⟨a,b,d,⟨e,f,g⟩⟩).map Zh:=fun a0 a b d e f g=>by have:=V9 (f:=Zh) (l:=T.cols.set j a0) (i:=j) (a:=⟨a,b,d,⟨e,f,g⟩⟩);rw[U]at this;exact this.symm
 have ck:=Zlg col.kd c.col.df.k c.col.df.n c.col.df.s;rw[ZcY];by_cases C:QA col.kd c.col.df=0
 ·rw[Vr C];rw[show(⟨c.col.df.k,c.col.df.n,c.col.df.s⟩:Val)=c.col.df from rfl,C]at ck;simp only[go_sem,simprocAttr,f122,r,gL u,gL hs.tb,G,O,M,gL o.c,gL o.k,sL o.c,H,Q,Zb,w,q,ZB,Zf,Vd,gA0 B,sA0 B,Ub,ck]
 rw[Vm C];rw[show(⟨c.col.df.k,c.col.df.n,c.col.df.s⟩:Val)=c.col.df from rfl]at ck;generalize QA col.kd c.col.df=z at *;have J:(z != 0)=true:=by simpa using C
 simp only[go_sem,simprocAttr,f122,r,gL u,gL hs.tb,G,O,M,gL o.c,gL o.k,H,Zb,w,q,ZB,Zf,Vd,gA0 B,sA0 B,Ub,ck,J]
theorem ZmB(hs:SchAt h lt X)(A:Shut h)(C:h[kc]?=some (.cells (kcC lt X.length i c)))(hi:X[i]?=some T)(U:FitT T.tbl){j:Nat}(Z:ixN c.nm (T.cols.map (·.nm)) 0=(j:Int))(E:T.cols[j]?=some col)(o:c.kd=9):
  R K (.call 122 [.ptr kc 0] h)=(if col.nl=false then some (I 17,h++[.cells (Zb c)])else if QA col.kd c.col.df=0 then some (I 0,h.set T.lc (.rows 6 ((T.cols.set j {col with nl:=false,df:=if col.df.k=0 then c.col.df else col.df}).map Zh) true)++[.cells (Zb c)])else some (I (QA col.kd c.col.df),h++[.cells (Zb c)])):=by
 have M:=(Vb.1 C).1;have m:=hs.ht T (Ve hi);have r:=(Vb.1 m.c).1;have w:=fun t=>ZmW (F:=R K) (t:=t) (g:=h) rfl A.cl (args:=[.ptr kc 0]) (by simp[Zg,locs,Zi,M]) (QF hs C hi U.cols rfl (.optr T.lc T.cols.length j 0) (.inr ⟨j,col,Z,E,rfl⟩)) rfl (by simp[locs,Zi,r]) A.cl;have q:=A.quiet;have u:h.length=h.length:=rfl;have D:(X.map Zn)[i]?=some (Zn T):=by rw[Vj,hi];rfl
 simp only[Zn]at D;have G:=YR c.nm T.key U.key;have H:=fun t=>ZaD (.own T.lk 1 T.key.length _ true ((m.app t).k) (Yh _)) [.str c.nm] [.str c.nm] rfl;have g3:=Ym E;have B:(T.cols.map Zh)[j]?=some (Zh col):=by rw[Vj,E];rfl
 simp only[Zh]at B;have W:∀(a:List UInt8) (b:Int) (d:Bool) (e f:Int) (g:List UInt8),(T.cols.map Zh).set j [.str a,I b,.bool d,I e,I f,.str g]=(T.cols.set j ⟨a,b,d,⟨e,f,g⟩⟩).map Zh:=fun a b d e f g=>by rw[V9];rfl
 have O:∀b:Blk,T.lc<h.length→(h.set T.lc b)[T.lc]?=some b:=fun b hl=>Vf hl;have ss:∀b b':Blk,(h.set T.lc b).set T.lc b'=h.set T.lc b':=fun b b'=>Uq ..;have lS:∀b:Blk,(h.set T.lc b).length=h.length:=fun b=>Vq;have s2:∀(a a':Col),(T.cols.set j a).set j a'=T.cols.set j a':=fun a a'=>Uq ..;have P:∀a:Col,((T.cols.set j a).map Zh)[j]?=some (Zh a):=fun a=>by rw[Vj,Vf (Vb.1 E).1];rfl
 simp only[Zh]at P;have sD:∀(a0:Col) (a:List UInt8) (b:Int) (d:Bool) (e f:Int) (g:List UInt8),((T.cols.set j a0).map Zh).set j [.str a,I b,.bool d,I e,I f,.str g]=(T.cols.set j ⟨a,b,d,⟨e,f,g⟩⟩).map Zh:=fun a0 a b d e f g=>by have:=V9 (f:=Zh) (l:=T.cols.set j a0) (i:=j) (a:=⟨a,b,d,⟨e,f,g⟩⟩);rw[s2]at this;exact this.symm
 have ck:=Zlg col.kd c.col.df.k c.col.df.n c.col.df.s;rw[ZcY];cases Y:col.nl
 ·rw[Vr rfl];simp only[Y]at B;simp only[go_sem,simprocAttr,f122,o,gL C,gL hs.tb,D,H,G,gL m.c,gL m.k,B,Zb,w,q,ZB,Zf,Vd,gA0 u,sA0 u,Ub]
 rw[Vm (by simp)];simp only[Y]at B;by_cases J:QA col.kd c.col.df=0
 ·rw[Vr J];rw[show(⟨c.col.df.k,c.col.df.n,c.col.df.s⟩:Val)=c.col.df from rfl,J]at ck;by_cases L:col.df.k=0
  ·rw[Vr L];simp only[go_sem,simprocAttr,f122,o,gL C,gL hs.tb,D,H,G,gL m.c,gL m.k,sL m.c,sL (O _ r),gL (O _ r),ss,B,P,W,sD,Zb,w,q,ZB,Zf,Vd,Vq,gA0 u,sA0 u,gA0 (lS _),Ub,ck,L]
  rw[Vm L];have Q:(col.df.k==0)=false:=by simpa using L
  simp only[go_sem,simprocAttr,f122,o,gL C,gL hs.tb,D,H,G,gL m.c,gL m.k,sL m.c,gL (O _ r),B,P,W,Zb,w,q,ZB,Zf,Vd,Vq,gA0 u,sA0 u,Ub,ck,Q]
 rw[Vm J];rw[show(⟨c.col.df.k,c.col.df.n,c.col.df.s⟩:Val)=c.col.df from rfl]at ck;generalize QA col.kd c.col.df=z at *;have S:(z != 0)=true:=by simpa using J
 simp only[go_sem,simprocAttr,f122,o,gL C,gL hs.tb,D,H,G,gL m.c,gL m.k,B,Zb,w,q,ZB,Zf,Vd,gA0 u,sA0 u,Ub,ck,S]
noncomputable def Zil(x:List Tbl)(t:Tbl)(c:Chg)(col:Col):Int :=
 if(!Zej col.kd c.col.kd||(col.kd==c.col.kd||(col.df.k != 0&&(QU col.df c.col.kd).k==0)))=true then 8
 else if(inF t c.nm||(t.key.contains c.nm&&ZiV x [] c.tb))=true then 11 else 0
set_option maxHeartbeats 2000000 in
theorem ZpV(hs:SchAt h lt X)(Z:Shut h)(A:h[kc]?=some (.cells (kcC lt X.length i c)))(hi:X[i]?=some T)(ht:FitT T.tbl){j:Nat}(h0:ixN c.nm (T.cols.map (·.nm)) 0=(j:Int))(hj:T.cols[j]?=some col)(r:c.kd=7)(hx:FitX (X.map LT.tbl)):
  R K (.call 122 [.ptr kc 0] h)=(if Zil (X.map LT.tbl) T.tbl c col=0 then some (I 0,h.set T.lc (.rows 6 ((T.cols.set j {col with kd:=c.col.kd,df:=QU col.df c.col.kd}).map Zh) true)++[.cells (Zb c),.cells [I (QU col.df c.col.kd).k,I (QU col.df c.col.kd).n,.str (QU col.df c.col.kd).s]])else some (I (Zil (X.map LT.tbl) T.tbl c col),h++[.cells (Zb c),.cells [I (QU col.df c.col.kd).k,I (QU col.df c.col.kd).n,.str (QU col.df c.col.kd).s]])):=by
 have a1:=(Vb.1 A).1;have o:=hs.ht T (Ve hi);have u:=(Vb.1 o.c).1;have w:=fun t=>ZmW (F:=R K) (t:=t) (g:=h) rfl Z.cl (args:=[.ptr kc 0]) (by simp[Zg,locs,Zi,a1]) (QF hs A hi ht.cols rfl (.optr T.lc T.cols.length j 0) (.inr ⟨j,col,h0,hj,rfl⟩)) rfl (by simp[locs,Zi,u]) Z.cl;have q:=Z.quiet;have m:h.length=h.length:=rfl;have C:(X.map Zn)[i]?=some (Zn T):=by rw[Vj,hi];rfl
 simp only[Zn]at C;have B:=YR c.nm T.key ht.key;have G:=fun t=>ZaD (.own T.lk 1 T.key.length _ true ((o.app t).k) (Yh _)) [.str c.nm] [.str c.nm] rfl;have g3:=Ym hj;have D:(T.cols.map Zh)[j]?=some (Zh col):=by rw[Vj,hj];rfl
 simp only[Zh]at D;have sC:∀(a:List UInt8) (b:Int) (d:Bool) (e f:Int) (g:List UInt8),(T.cols.map Zh).set j [.str a,I b,.bool d,I e,I f,.str g]=(T.cols.set j ⟨a,b,d,⟨e,f,g⟩⟩).map Zh:=fun a b d e f g=>by rw[V9];rfl
 have S:∀b:Blk,T.lc<h.length→(h.set T.lc b)[T.lc]?=some b:=fun b hl=>Vf hl;have ss:∀b b':Blk,(h.set T.lc b).set T.lc b'=h.set T.lc b':=fun b b'=>Uq ..;have lS:∀b:Blk,(h.set T.lc b).length=h.length:=fun b=>Vq;have s2:∀(a a':Col),(T.cols.set j a).set j a'=T.cols.set j a':=fun a a'=>Uq ..;have g5:∀a:Col,((T.cols.set j a).map Zh)[j]?=some (Zh a):=fun a=>by rw[Vj,Vf (Vb.1 hj).1];rfl
 simp only[Zh]at g5;have sD:∀(a0:Col) (a:List UInt8) (b:Int) (d:Bool) (e f:Int) (g:List UInt8),((T.cols.set j a0).map Zh).set j [.str a,I b,.bool d,I e,I f,.str g]=(T.cols.set j ⟨a,b,d,⟨e,f,g⟩⟩).map Zh:=fun a0 a b d e f g=>by have:=V9 (f:=Zh) (l:=T.cols.set j a0) (i:=j) (a:=⟨a,b,d,⟨e,f,g⟩⟩);rw[s2]at this;exact this.symm
 have E:=ZBn col.df.k col.df.n col.df.s c.col.kd;rw[show(⟨col.df.k,col.df.n,col.df.s⟩:Val)=col.df from rfl]at E;have H:=Zz3 col.kd c.col.kd;have U:=ZgF (X.map LT.tbl) c T.tbl ht c.nm;have e4:=ZhG (X.map LT.tbl) hx c T.tbl [];have W:=fun t=>(hs.app t).snapK (gL A t) hi [.str c.nm] [.str c.nm] rfl;have O:=fun t=>(hs.app t).snapK (gL A t) hi [.str []] [.str []] rfl;have Y:T.tbl.key=T.key:=rfl;have nl:(h.length+1==T.lc)=false:=by rw[VR];omega
 unfold Zil;rw[ZcY];generalize QU col.df c.col.kd=v at *;cases J:Zej col.kd c.col.kd
 ·simp only[go_sem,simprocAttr,f122,r,gL A,gL hs.tb,C,G,B,gL o.c,gL o.k,D,Zb,w,q,ZB,Zf,Vd,gA0 m,gA m,sA0 m,sA m,Ub,Vo,Vl,Vi,E,H,J,U1,VN,VW,UM,UC,UF]
 cases M:(col.kd==c.col.kd)
 ·cases P:(col.df.k != 0)
  ·cases Q:inF T.tbl c.nm
   ·cases L:T.key.contains c.nm
    ·rw[L]at B;simp only[go_sem,simprocAttr,f122,r,gL A,gL hs.tb,C,G,B,gL o.c,gL o.k,sL o.c,sL (S _ u),gL (S _ u),ss,D,g5,sC,sD,Zb,w,q,ZB,Zf,Vd,Vq,gA0 m,gA m,sA0 m,sA m,Ub,Vo,Vl,Vi,Y,nl,E,H,U,W,J,M,P,Q,L,U1,VN,VW,UM,UC,UF]
    rw[L]at B;cases hR:ZiV (X.map LT.tbl) [] c.tb
    ·simp only[go_sem,simprocAttr,f122,r,gL A,gL hs.tb,C,G,B,gL o.c,gL o.k,sL o.c,sL (S _ u),gL (S _ u),ss,D,g5,sC,sD,Zb,w,q,ZB,Zf,Vd,Vq,gA0 m,gA m,sA0 m,sA m,Ub,Vo,Vl,Vi,Y,nl,E,H,U,e4,W,O,J,M,P,Q,L,hR,U1,VN,VW,UM,UC,UF]
    simp only[go_sem,simprocAttr,f122,r,gL A,gL hs.tb,C,G,B,gL o.c,gL o.k,D,Zb,w,q,ZB,Zf,Vd,gA0 m,gA m,sA0 m,sA m,Ub,Vo,Vl,Vi,Y,E,H,U,e4,W,O,J,M,P,Q,L,hR,U1,VN,VW,UM,UC,UF]
   simp only[go_sem,simprocAttr,f122,r,gL A,gL hs.tb,C,G,B,gL o.c,gL o.k,D,Zb,w,q,ZB,Zf,Vd,gA0 m,gA m,sA0 m,sA m,Ub,Vo,Vl,Vi,Y,E,H,U,W,J,M,P,Q,U1,VN,VW,UM,UC,UF]
  cases hD:(v.k==0)
  ·cases Q:inF T.tbl c.nm
   ·cases L:T.key.contains c.nm
    ·rw[L]at B;simp only[go_sem,simprocAttr,f122,r,gL A,gL hs.tb,C,G,B,gL o.c,gL o.k,sL o.c,sL (S _ u),gL (S _ u),ss,D,g5,sC,sD,Zb,w,q,ZB,Zf,Vd,Vq,gA0 m,gA m,sA0 m,sA m,Ub,Vo,Vl,Vi,Y,nl,E,H,U,W,J,M,P,hD,Q,L,U1,VN,VW,UM,UC,UF]
    rw[L]at B;cases hR:ZiV (X.map LT.tbl) [] c.tb
    ·simp only[go_sem,simprocAttr,f122,r,gL A,gL hs.tb,C,G,B,gL o.c,gL o.k,sL o.c,sL (S _ u),gL (S _ u),ss,D,g5,sC,sD,Zb,w,q,ZB,Zf,Vd,Vq,gA0 m,gA m,sA0 m,sA m,Ub,Vo,Vl,Vi,Y,nl,E,H,U,e4,W,O,J,M,P,hD,Q,L,hR,U1,VN,VW,UM,UC,UF]
    simp only[go_sem,simprocAttr,f122,r,gL A,gL hs.tb,C,G,B,gL o.c,gL o.k,D,Zb,w,q,ZB,Zf,Vd,gA0 m,gA m,sA0 m,sA m,Ub,Vo,Vl,Vi,Y,E,H,U,e4,W,O,J,M,P,hD,Q,L,hR,U1,VN,VW,UM,UC,UF]
   simp only[go_sem,simprocAttr,f122,r,gL A,gL hs.tb,C,G,B,gL o.c,gL o.k,D,Zb,w,q,ZB,Zf,Vd,gA0 m,gA m,sA0 m,sA m,Ub,Vo,Vl,Vi,Y,E,H,U,W,J,M,P,hD,Q,U1,VN,VW,UM,UC,UF]
  simp only[go_sem,simprocAttr,f122,r,gL A,gL hs.tb,C,G,B,gL o.c,gL o.k,D,Zb,w,q,ZB,Zf,Vd,gA0 m,gA m,sA0 m,sA m,Ub,Vo,Vl,Vi,E,H,J,M,P,hD,U1,VN,VW,UM,UC,UF]
 simp only[go_sem,simprocAttr,f122,r,gL A,gL hs.tb,C,G,B,gL o.c,gL o.k,D,Zb,w,q,ZB,Zf,Vd,gA0 m,gA m,sA0 m,sA m,Ub,Vo,Vl,Vi,E,H,J,M,U1,VN,VW,UM,UC,UF]
end
theorem SchAt.notIn{h:Za}{U:LT}(hs:SchAt h lt X)(hi:X[i]?=some T)(q:X[k]?=some U)(r:i≠k):∀l∈U.pl,l≠lt∧l∉T.pl:=by
 intro l u;have w:=Vx.1 hs.ap;refine⟨fun e=>w.1 (e▸V1.2 ⟨U,Ve q,u⟩),fun m=>?_⟩;have key:∀(X:List LT),(X.flatMap LT.pl).Nodup→∀(i k:Nat) (T U:LT),X[i]?=some T→X[k]?=some U→i<k→∀l,l∈T.pl→l∈U.pl→False:=by
  intro X
  induction X with
  |nil=>intro _ i k T U o;simp at o
  |cons A X E =>
   intro b i k T U o h2 F l m D;rw[US,VY]at b;cases k with
   |zero=>omega
   |succ k =>
    cases i with
    |zero =>
     simp only[Vt,Va]at o;subst o;exact b.2.2 l m l (V1.2 ⟨U,Ve (by simpa using h2),D⟩) rfl
    |succ i=>exact E b.2.1 i k T U (by simpa using o) (by simpa using h2) (by omega) l m D
 rcases Sy r with B|C
 ·exact key X w.2 i k T U hi q B l m u
 exact key X w.2 k i U T q hi C l u m
theorem SchAt.upd{h h':Za}{row':List AV}{t':Tbl}(hs:SchAt h lt X)(hi:X[i]?=some T)(e:h'[lt]?=some (.rows 5 ((X.map Zn).set i row') true))(w:SeenT h' row' t')(fr:∀l,l≠lt→l∉T.pl→h'[l]?=h[l]?):
  SeenX h' (.own lt X.length) ((X.map LT.tbl).set i t'):=by
 refine⟨_,.own lt 5 _ _ true e (by simp),by simp,fun k a b m e=>?_⟩;have q:i<X.length:=(Vb.1 hi).1;by_cases r:i=k
 ·subst r;rw[Vf (by simpa using q)]at m e;simp only[Va]at m e;subst m e;exact w
 rw[Vc r,Vj]at m e;cases o:X[k]? with
 |none=>rw[o]at m;simp at m
 |some U =>
  rw[o]at m e;simp only[Ue,Va]at m e;subst m e;have:=hs.notIn hi o r;exact((hs.ht U (Ve o)).frame fun l u=>fr l (this l u).1 (this l u).2).seen
end Go.Ab
