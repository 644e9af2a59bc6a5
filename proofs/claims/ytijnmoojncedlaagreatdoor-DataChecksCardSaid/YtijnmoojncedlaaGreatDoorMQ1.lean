/- What is proved: contracts of the program's and the reference's functions in the evaluator, and plain laws on them. Conditions: as each states. -/
import Derived.Test.YtijnmoojncedlaaGreatDoorMC
import Derived.IntWalk
set_option linter.unusedSimpArgs false
set_option linter.unusedSectionVars false
set_option linter.unusedVariables false
set_option maxRecDepth 100000
namespace Go.Ab
open Go Go.Proofs
structure Val where
 k:Int
 n:Int
 s:List UInt8
 deriving DecidableEq
@[go_sem] def enc (v:Val):AV:=.agg [.int .i64 v.k,.int .i64 v.n,.str v.s]
@[go_sem] theorem Val.eta (v:Val):Val.mk v.k v.n v.s=v:=rfl
def Y3:Val:=⟨0,0,[]⟩
def Zb:Code→Nat→Option Code
 | .seq a b,i=>match Zb a i with
  | some c=>some c
  | none=>Zb b i
 | .cond _ a b,i=>match Zb a i with
  | some c=>some c
  | none=>Zb b i
 | .block j c,i=>if j=i then (match c with
  | .loop b=>some b
  | _=>none) else Zb c i
 | .loop c,i=>Zb c i
 | _,_=>none
def Zf (f:Func) (i:Nat) (B:Code):Prop:=Zb (f.body.getD .skip) i=some B
@[go_sem] theorem ZV {n:Int} (h1:-9223372036854775808≤n) (h2:n≤9223372036854775807):ZC .i64 n=n:=by
 exact IntWalk.i64_in _ ⟨h1,h2⟩
theorem Z2 {α:Type} {l:List α} {i:Nat} {x:α} (h:l[i]? = some x):at? l (i:Int)=some x:=by
 simp [at?,h]
theorem Zje {s:List UInt8} {i:Nat} {b:UInt8} (h:s[i]? = some b):at? s (i:Int)=some b:=Z2 h
theorem ZE {α:Type} {l:List α} {i:Nat} {x:α} (h:l[i]? = some x):l.drop i=x::l.drop (i+1):=by
 obtain ⟨h1,h2⟩:=List.getElem?_eq_some_iff.1 h
 rw [List.drop_eq_getElem_cons h1,h2]
abbrev Mx:=Nat→Nat→Bool
def QN (k:Nat) (r:Mx):Mx:=fun i j=>r i j||(r i k&&r k j)
def Ze8 (r:Mx):Nat→Mx
 | 0=>r
 | k+1=>QN k (Ze8 r k)
theorem Zpi {k:Nat} {r:Mx} {i j:Nat} (h:r i j=true):QN k r i j=true:=by simp [QN,h]
theorem Zkg {r:Mx} {i j:Nat} (h:r i j=true):∀ k,Ze8 r k i j=true
 | 0=>h
 | k+1=>Zpi (Zkg h k)
theorem Zg0 (k:Nat) (r:Mx) (i:Nat):QN k r i k=r i k:=by
 simp only [QN]
 cases r i k<;>simp
theorem ZgP (k:Nat) (r:Mx) (j:Nat):QN k r k j=r k j:=by
 simp only [QN]
 cases r k j<;>simp
def Tr (r:Mx) (k:Nat):Prop:=∀ m,m < k→∀ i j,r i m=true→r m j=true→r i j=true
theorem ZoN {r:Mx} {k:Nat} (h:Tr r k):Tr (QN k r) (k+1):=by
 intro m hm i j h1 h2
 by_cases e:m=k
 ·subst e
  rw [Zg0] at h1
  rw [ZgP] at h2
  simp [QN,h1,h2]
 ·have hm:m < k:=by omega
  simp only [QN,Bool.or_eq_true,Bool.and_eq_true] at h1 h2 ⊢
  rcases h1 with h1 | ⟨h1,h3⟩
  ·rcases h2 with h2 | ⟨h2,h4⟩
   ·exact .inl (h m hm i j h1 h2)
   ·exact .inr ⟨h m hm i k h1 h2,h4⟩
  ·rcases h2 with h2 | ⟨h2,h4⟩
   ·exact .inr ⟨h1,h m hm k j h3 h2⟩
   ·exact .inr ⟨h1,h4⟩
theorem Zix (r:Mx):∀ k,Tr (Ze8 r k) k
 | 0=>fun m hm=>absurd hm (by omega)
 | k+1=>ZoN (Zix r k)
def WK (k:Nat) (r:Mx) (i j:Nat):Mx:=fun a b=>if a < i∨(a=i∧b < j) then QN k r a b else r a b
theorem ZsJ (k:Nat) (r:Mx) (i j:Nat):WK k r i j i j=r i j:=if_neg (by omega)
theorem ZrS (k:Nat) (r:Mx) (i j a:Nat):WK k r i j a k=r a k:=by
 unfold WK
 split
 ·exact Zg0 k r a
 ·rfl
theorem ZsA (k:Nat) (r:Mx) (i j b:Nat):WK k r i j k b=r k b:=by
 unfold WK
 split
 ·exact ZgP k r b
 ·rfl
theorem ZpI (k:Nat) (r:Mx) (i j a b:Nat):WK k r i (j+1) a b=if a=i∧b=j then QN k r i j else WK k r i j a b:=by
 unfold WK
 by_cases h:a=i∧b=j
 ·obtain ⟨rfl,rfl⟩:=h
  rw [if_pos (by omega),if_pos ⟨rfl,rfl⟩]
 ·rw [if_neg h]
  by_cases h2:a < i∨(a=i∧b < j)
  ·rw [if_pos h2,if_pos (by omega)]
  ·rw [if_neg h2,if_neg (by omega)]
theorem ZgO {α:Type} (p q:α→Bool):∀ l:List α,(∀ x∈l,p x=true→q x=true)→(∃ x∈l,q x=true∧p x=false)→l.countP p < l.countP q
 | [],_,h=>by obtain ⟨x,hx,_⟩:=h;simp at hx
 | a::l,h1,h2=>by
  have hle:l.countP p≤l.countP q:=List.countP_mono_left fun x hx=>h1 x (List.mem_cons_of_mem _ hx)
  obtain ⟨x,hx,h3,h4⟩:=h2
  rcases List.mem_cons.1 hx with rfl | hx
  ·rw [List.countP_cons_of_neg (by simp [h4]),List.countP_cons_of_pos h3]
   omega
  ·have ih:=ZgO p q l (fun x hx=>h1 x (List.mem_cons_of_mem _ hx)) ⟨x,hx,h3,h4⟩
   simp only [List.countP_cons]
   have:=h1 a (by simp)
   cases hp:p a with
   | false=>simp only [Bool.false_eq_true,if_false];omega
   | true=>simp only [this hp,if_true];omega
def Zcq (r:Mx) (ts:List Nat) (st:Nat→Bool) (i:Nat):Bool:=ts.any fun j=>!(j==i)&&!st j&&!(r i j&&r j i)
theorem Zg2 (n:Nat) (r:Mx) (F:Nat→List Nat) (st:Nat→Bool) (hr:Tr r n) (hF:∀ i,i < n→∀ j∈F i,j < n∧r i j=true) :
  ∀ (c i:Nat),i < n→st i=false→(List.range n).countP (fun x=>r i x&&!r x i)≤c→∃ i,i < n∧st i=false∧Zcq r (F i) st i=false
 | 0,i,hi,hs,hc=>by
  refine ⟨i,hi,hs,?_⟩
  cases hw:Zcq r (F i) st i with
  | false=>rfl
  | true =>
   obtain ⟨j,hj,h⟩:=List.any_eq_true.1 hw
   obtain ⟨h1,h2⟩:=hF i hi j hj
   simp only [Bool.and_eq_true,Bool.not_eq_true',Bool.and_eq_false_iff] at h
   have h3:r j i=false:=h.2.resolve_left (by simp [h2])
   have:=List.countP_eq_zero.1 (Nat.le_zero.1 hc) j (List.mem_range.2 h1)
   simp [h2,h3] at this
 | c+1,i,hi,hs,hc=>by
  cases hw:Zcq r (F i) st i with
  | false=>exact ⟨i,hi,hs,hw⟩
  | true =>
   obtain ⟨j,hj,h⟩:=List.any_eq_true.1 hw
   obtain ⟨h1,h2⟩:=hF i hi j hj
   simp only [Bool.and_eq_true,Bool.not_eq_true',Bool.and_eq_false_iff] at h
   have h3:r j i=false:=h.2.resolve_left (by simp [h2])
   refine Zg2 n r F st hr hF c j h1 h.1.2 ?_
   have:=ZgO (fun x=>r j x&&!r x j) (fun x=>r i x&&!r x i) (List.range n) (fun x hx hp=>?_) ⟨j,List.mem_range.2 h1,by simp [h2,h3],by simp⟩
   ·omega
   ·simp only [Bool.and_eq_true,Bool.not_eq_true'] at hp ⊢
    refine ⟨hr j h1 i x h2 hp.1,?_⟩
    cases e:r x i with
    | false=>rfl
    | true=>have:=hr i hi x j e h2;rw [hp.2] at this;simp at this
theorem Zkd:∀ (n:Nat) (o:List Nat),(∀ i,i < n→i∈o)→n≤o.length
 | 0,_,_=>Nat.zero_le _
 | n+1,o,h=>by
  have h1:=Zkd n (o.erase n) fun i hi=>(List.mem_erase_of_ne (by omega)).2 (h i (by omega))
  have h2:=List.length_erase_of_mem (h n (by omega))
  have h3:0 < o.length:=List.length_pos_of_mem (h n (by omega))
  omega
theorem ZsM (o:List Nat) (n:Nat) (hl:o.length < n):∃ i,i < n∧o.contains i=false:=by
 refine Classical.byContradiction fun hne=>?_
 have hall:∀ i,i < n→i∈o:=fun i hi=>by
  cases h:o.contains i with
  | true=>simpa using h
  | false=>exact absurd ⟨i,hi,h⟩ hne
 have:=Zkd n o hall
 omega
structure Col where
 nm:List UInt8
 kd:Int
 nl:Bool
 df:Val
structure Fgn where
 nm:List UInt8
 cols:List (List UInt8)
 tb:List UInt8
structure Idx where
 nm:List UInt8
 cols:List (List UInt8)
 uq:Bool
structure Tbl where
 nm:List UInt8
 cols:List Col
 key:List (List UInt8)
 fgn:List Fgn
 idx:List Idx
abbrev SLs (l:List (List UInt8)):List (List AV):=l.map fun s=>[AV.str s]
def ZO (c:Col):List AV:=[.str c.nm,.int .i64 c.kd,.bool c.nl,.int .i64 c.df.k,.int .i64 c.df.n,.str c.df.s]
def Zt (f:Fgn):List AV:=[.str f.nm,.rows (SLs f.cols),.str f.tb]
def ZT (x:Idx):List AV:=[.str x.nm,.rows (SLs x.cols),.bool x.uq]
def Za (t:Tbl):List AV:=[.str t.nm,.rows (t.cols.map ZO),.rows (SLs t.key),.rows (t.fgn.map Zt),.rows (t.idx.map ZT)]
abbrev WI (ts:List Tbl):AV:=.agg [.rows (ts.map Za)]
def evE (e:Nat→Int):Nat→Nat→Int
 | _,0=>0
 | j,m+1=>if e j=0 then evE e (j+1) m else e j
def orE (a b:Int):Int:=if a=0 then b else a
def ixN (n:List UInt8):List (List UInt8)→Nat→Int
 | [],_=>-1
 | m::r,i=>if m=n then (i:Int) else ixN n r (i+1)
theorem Zhq (n:List UInt8):∀ (l:List (List UInt8)) (i:Nat),ixN n l i < ((i+l.length:Nat):Int)
 | [],i=>by simp [ixN];omega
 | m::r,i=>by
  unfold ixN
  split
  ·simp only [List.length_cons];omega
  ·have:=Zhq n r (i+1)
   simp only [List.length_cons] at this ⊢
   omega
theorem J7 (n:List UInt8):∀ (l:List (List UInt8)) (i:Nat),ixN n l i=-1∨(i:Int)≤ixN n l i
 | [],i=>.inl rfl
 | m::r,i=>by
  unfold ixN
  split
  ·exact .inr (Int.le_refl _)
  ·rcases J7 n r (i+1) with h | h
   ·exact .inl h
   ·exact .inr (by omega)
theorem W2 (n:List UInt8):∀ (l:List (List UInt8)) (i:Nat),ixN n l i=-1↔n∉l
 | [],i=>by simp [ixN]
 | m::r,i=>by
  unfold ixN
  split
  ·rename_i h;subst h;simp
  ·rename_i h
   rw [W2 n r (i+1)]
   simp [show ¬n=m from fun e=>h e.symm]
theorem Zkm (n:List UInt8):∀ (l:List (List UInt8)) (i k:Nat),n∈l→(ixN n l i < ((i+k:Nat):Int)↔n∈l.take k)
 | [],i,k,h=>by simp at h
 | m::r,i,0,h=>by
  simp only [Nat.add_zero,List.take_zero,List.not_mem_nil,iff_false,Int.not_lt]
  rcases J7 n (m::r) i with h1 | h1
  ·exact absurd h ((W2 n _ _).1 h1)
  ·exact h1
 | m::r,i,k+1,h=>by
  unfold ixN
  split
  ·rename_i e;subst e;simp;omega
  ·rename_i e
   have hr:n∈r:=by
    rcases List.mem_cons.1 h with h | h
    ·exact absurd h.symm e
    ·exact h
   rw [show i+(k+1)=(i+1)+k by omega,Zkm n r (i+1) k hr]
   simp [show ¬n=m from fun e'=>e e'.symm]
theorem Zlv (n:List UInt8):∀ (l:List (List UInt8)) (i j:Nat),ixN n l i=(j:Int)→i≤j∧l[j - i]? = some n
 | [],i,j,h=>by simp [ixN] at h
 | m::r,i,j,h=>by
  unfold ixN at h
  split at h
  ·rename_i e
   have:i=j:=by omega
   subst this;subst e
   simp
  ·obtain ⟨h1,h2⟩:=Zlv n r (i+1) j h
   refine ⟨by omega,?_⟩
   rw [show j - i=(j - (i+1))+1 by omega,List.getElem?_cons_succ]
   exact h2
def chB (o:List UInt8) (c:UInt8):Bool:=(decide (97≤c.toNat)&&decide (c.toNat≤122))||(decide (48≤c.toNat)&&decide (c.toNat≤57))||o.contains c
def Zzt (o:List UInt8) (m:Nat) (s:List UInt8):Bool:=match s with
 | []=>false
 | c::_=>s.all (chB o)&&decide (s.length≤m)&&(decide (97≤c.toNat)&&decide (c.toNat≤122))
abbrev ZaF (s:List UInt8):Bool:=Zzt [95] 40 s
def Qh (s b:List UInt8) (first:Bool):Int:=if ZaF s=false then 5 else if first=false∧(Op.bytesLess s b=true∨s=b) then 7 else 0
abbrev I (n:Int):AV:=.int .i64 n
attribute [go_sem] Jy Ys WC YO YX sub Zap XI ren back QA Y4 List.contains_cons List.contains_nil List.map_cons List.map_nil List.take_length ite_self
def Wb (h:Zd) (f:AV) (e:Nat→Int) (n:Nat):Prop:=∀ i,i < n→Yv nlA (R K) h [I (i:Int)] f=some (I (e i),h)
theorem ZmS (f:AV) (h:Zd) (e:Nat→Int) (n:Nat) (hn:n≤1000000) (hu:Z6 h.length (ZP h)=true) (hc:Wb h f e n) (ks:List It):∀ (q j:Nat) (i:Int) (Bo:Code),Zf Tryz.f43 0 Bo→i=(j:Int)→n=j+q →
  RL K (.run 43 h.length (.code Bo::.lp Bo (some ([1,7,8],[])) h.length::.blk 0 h.length::ks) [(1,f),(7,I (n:Int)),(8,I i)] h) =
  if evE e j q=0 then R K (.run 43 h.length ks [] h) else some (I (evE e j q),h)
 | 0,j,i,Bo,hB,hi,hq=>by
  subst hi
  have d:¬(j:Int) < (n:Int):=by omega
  unfold Zf at hB
  simp -implicitDefEqProofs only [go_sem,simprocAttr,Tryz.f43,Zb] at hB
  subst hB
  rw [Zc]
  simp -implicitDefEqProofs only [go_sem,simprocAttr,d,evE]
 | q+1,j,i,Bo,hB,hi,hq=>by
  subst hi
  have hB':=hB
  have d:(j:Int) < (n:Int):=by omega
  have h7:ZC .i64 ((j:Int)+1)=((j+1:Nat):Int):=by rw [ZV (by omega) (by omega)];omega
  have hx:=hc j (by omega)
  have ih:=ZmS f h e n hn hu hc ks q (j+1) _ Bo hB' rfl (by omega)
  by_cases hk:e j=0
  ·have e1:evE e j (q+1)=evE e (j+1) q:=by simp only [evE];rw [if_pos hk]
   rw [e1]
   unfold Zf at hB
   simp -implicitDefEqProofs only [go_sem,simprocAttr,Tryz.f43,Zb] at hB
   subst hB
   rw [Zc]
   simp -implicitDefEqProofs only [go_sem,simprocAttr,d,h7,hx,hk,bne]
   rw [ih]
  ·have e1:evE e j (q+1)=e j:=by simp only [evE];rw [if_neg hk]
   have dk:(e j==0)=false:=by simpa using hk
   rw [e1,if_neg hk]
   unfold Zf at hB
   simp -implicitDefEqProofs only [go_sem,simprocAttr,Tryz.f43,Zb] at hB
   subst hB
   rw [Zc]
   simp -implicitDefEqProofs only [go_sem,simprocAttr,d,h7,hx,dk,bne,hu]
theorem YS (f:AV) (h:Zd) (e:Nat→Int) (n:Nat) (hn:n≤1000000) (hu:Z6 h.length (ZP h)=true) (hc:Wb h f e n):R K (.call 43 [I (n:Int),f] h)=some (I (evE e 0 n),h):=by
 have lk:=fun ks B hB=>ZmS f h e n hn hu hc ks n 0 0 B hB rfl (by omega)
 rw [Zl3]
 simp -implicitDefEqProofs only [go_sem,simprocAttr,Tryz.f43]
 rw [lk _ _ ?_]
 ·split
  ·rename_i h0
   rw [h0]
   simp -implicitDefEqProofs only [go_sem,simprocAttr,hu]
  ·rfl
 ·rfl
theorem ZpD (b:UInt8):∀ o:List UInt8,decide (Lib.indexByte o b < 0)=!o.contains b
 | []=>rfl
 | c::o=>by
  have ih:=ZpD b o
  have hge:=Lib.indexByte_ge o b
  unfold Lib.indexByte
  rw [List.contains_cons]
  by_cases h:c=b
  ·subst h;simp
  ·have h1:(c==b)=false:=by simpa using h
   have h2:(b==c)=false:=by simpa using fun e:b=c=>h e.symm
   rw [h1,h2]
   simp only [Bool.false_eq_true,if_false,Bool.false_or]
   rw [←ih]
   by_cases h3:Lib.indexByte o b=-1
   ·simp [h3]
   ·have h4:(Lib.indexByte o b==-1)=false:=by simpa using h3
    rw [h4]
    simp only [Bool.false_eq_true,if_false]
    congr 1
    simp only [eq_iff_iff]
    omega
theorem Zon (b:UInt8):((b.toNat:Int).toNat.toUInt8)=b:=by simp
theorem ZiA (o:List UInt8) (b:UInt8):R K (.call 308 [.str o,.int .u8 (b.toNat:Int)] [])=some (I (Lib.indexByte o b),[]):=ZaG (by
 show some (AV.int .i64 (Lib.indexByte o ((b.toNat:Int).toNat.toUInt8)))=_
 rw [Zon])
theorem Zua (o:List UInt8) (c:UInt8):chB o c=!((decide ((c.toNat:Int) < 97)||decide ((c.toNat:Int) > 122))&&(decide ((c.toNat:Int) < 48)||decide ((c.toNat:Int) > 57))&&decide (Lib.indexByte o c < 0)):=by
 rw [ZpD]
 unfold chB
 rw [Bool.eq_iff_iff]
 cases o.contains c<;>simp<;>omega
theorem Zfp (s o:List UInt8) (hs:s.length≤100000000) (ks:List It):∀ (q j:Nat) (i:Int) (Bo:Code),Zf Tryz.f207 0 Bo→i=(j:Int)→s.length=j+q →
  RL K (.run 207 0 (.code Bo::.lp Bo (some ([0,1,8,9],[])) 0::.blk 0 0::ks) [(0,.str s),(1,.str o),(8,I (s.length:Int)),(9,I i)] []) =
  if (s.drop j).all (chB o)=true then R K (.run 207 0 ks [(0,.str s)] []) else some (.bool false,[])
 | 0,j,i,Bo,hB,hi,hq=>by
  subst hi
  have d:¬(j:Int) < (s.length:Int):=by omega
  rw [List.drop_of_length_le (by omega),List.all_nil,if_pos rfl]
  unfold Zf at hB
  simp -implicitDefEqProofs only [go_sem,simprocAttr,Tryz.f207,Zb] at hB
  subst hB
  rw [Zc]
  simp -implicitDefEqProofs only [go_sem,simprocAttr,d]
 | q+1,j,i,Bo,hB,hi,hq=>by
  subst hi
  have hB':=hB
  have d:(j:Int) < (s.length:Int):=by omega
  have h7:ZC .i64 ((j:Int)+1)=((j+1:Nat):Int):=by rw [ZV (by omega) (by omega)];omega
  obtain ⟨b,hb⟩:∃ b,s[j]? = some b:=⟨s[j]'(by omega),List.getElem?_eq_getElem _⟩
  have hg:=Zje hb
  have ih:=Zfp s o hs ks q (j+1) _ Bo hB' rfl (by omega)
  rw [ZE hb,List.all_cons]
  have hx:=ZiA o b
  rw [Zua]
  unfold Zf at hB
  simp -implicitDefEqProofs only [go_sem,simprocAttr,Tryz.f207,Zb] at hB
  subst hB
  rw [Zc]
  simp -implicitDefEqProofs only [go_sem,simprocAttr,d,h7,hg,hx]
  repeat' ((first | apply ZI | apply ZR | apply ZY)<;>intro hc<;>simp -implicitDefEqProofs only [hc,go_sem,simprocAttr,d,h7,hg,hx])
  all_goals (try rw [ih])
  all_goals simp_all
theorem ZkJ (s o:List UInt8) (hs:s.length≤100000000):R K (.call 207 [.str s,.str o] [])=some (.bool (s.all (chB o)&&!(s==[])),[]):=by
 have lk:=fun ks B hB=>Zfp s o hs ks s.length 0 0 B hB rfl (by omega)
 simp only [List.drop_zero] at lk
 rw [Zqb]
 simp -implicitDefEqProofs only [go_sem,simprocAttr,Tryz.f207]
 rw [lk _ _ ?_]
 ·split
  ·rename_i h0
   rw [h0]
   simp -implicitDefEqProofs only [go_sem,simprocAttr,bne]
  ·rename_i h0
   rw [Bool.not_eq_true] at h0
   rw [h0];rfl
 ·rfl
def Zk2 (c:UInt8):Bool:=decide (97≤c.toNat)&&decide (c.toNat≤122)
theorem Ztm (c:UInt8):R K (.call 318 [.int .u8 (c.toNat:Int)] [])=some (.bool (Zk2 c),[]):=by
 have h1:decide ((97:Int)≤(c.toNat:Int))=decide (97≤c.toNat):=by congr 1;simp only [eq_iff_iff];omega
 have h2:decide ((c.toNat:Int)≤122)=decide (c.toNat≤122):=by congr 1;simp only [eq_iff_iff];omega
 rw [ZpJ]
 simp -implicitDefEqProofs only [go_sem,simprocAttr,Tryz.f318]
 repeat' ((first | apply ZI | apply ZR | apply ZY)<;>intro hc<;>simp -implicitDefEqProofs only [hc,go_sem,simprocAttr])
 all_goals (unfold Zk2;simp_all<;>omega)
theorem Ziv (s:List UInt8) (hs:s.length≤100000000):R K (.call 279 [.str s] [])=some (.bool (ZaF s),[]):=by
 have hc:=ZkJ s [95] hs
 cases s with
 | nil =>
  have h0:(([]:List UInt8).all (chB [95])&&!(([]:List UInt8)==[]))=false:=rfl
  rw [h0] at hc
  rw [ZiG]
  simp -implicitDefEqProofs only [go_sem,simprocAttr,Tryz.f279,hc]
  rfl
 | cons c r =>
  have h0:((c::r:List UInt8)==[])=false:=rfl
  rw [h0] at hc
  simp only [Bool.not_false,Bool.and_true] at hc
  have hg:at? (c::r) (0:Int)=some c:=rfl
  have hx:=Ztm c
  have h2:decide (((c::r).length:Int)≤40)=decide ((c::r).length≤40):=by congr 1;simp only [eq_iff_iff];omega
  have e:ZaF (c::r)=((c::r).all (chB [95])&&decide ((c::r).length≤40)&&Zk2 c):=rfl
  rw [e]
  generalize (c::r).all (chB [95])=x at hc ⊢
  rw [ZiG]
  simp -implicitDefEqProofs only [go_sem,simprocAttr,Tryz.f279,hc,hg,hx]
  repeat' ((first | apply ZI | apply ZR | apply ZY)<;>intro hc<;>simp -implicitDefEqProofs only [hc,go_sem,simprocAttr,hc,hg,hx])
  all_goals (simp only [decide_eq_true_eq,decide_eq_false_iff_not] at hc)
  ·have h9:r.length≤39:=by omega
   simp [h9]
  ·have h9:¬r.length≤39:=by omega
   simp [h9]
theorem Zdh {p:UInt8→Bool}:∀ {l:List UInt8},l.dropWhile p=[]↔l.all p=true
 | []=>by simp
 | b::l=>by
  rw [List.dropWhile_cons,List.all_cons]
  cases p b with
  | true=>simp only [if_true,Bool.true_and];exact Zdh
  | false=>simp
theorem ZfD {p:UInt8→Bool}:∀ {l:List UInt8} {c:UInt8} {r:List UInt8},l.dropWhile p=c::r→p c=false
 | [],_,_,h=>by simp at h
 | b::l,c,r,h=>by
  rw [List.dropWhile_cons] at h
  cases hb:p b with
  | true=>rw [hb,if_pos rfl] at h;exact ZfD h
  | false =>
   rw [hb,if_neg (by simp)] at h
   rw [(List.cons.inj h).1] at hb;exact hb
theorem ZpM (s cs:List UInt8):Lib.trimS s cs=[]↔s.all (cs.contains ·)=true:=by
 unfold Lib.trimS Lib.trimLeftS Lib.trimRightS
 rw [Zdh]
 cases hd:s.reverse.dropWhile (cs.contains ·) with
 | nil =>
  have:=Zdh.1 hd
  rw [List.all_reverse] at this
  simp only [List.reverse_nil,List.all_nil,true_iff]
  exact this
 | cons c r =>
  have hc:=ZfD hd
  have hm:c∈s:=by
   have:c∈s.reverse.dropWhile (cs.contains ·):=by rw [hd];simp
   exact List.mem_reverse.1 ((List.dropWhile_sublist _).mem this)
  constructor
  ·intro h
   rw [List.all_reverse] at h
   have:=List.all_eq_true.1 h c (by simp)
   rw [hc] at this;simp at this
  ·intro h
   have:=List.all_eq_true.1 h c hm
   rw [hc] at this;simp at this
def lettB:List UInt8:=[97,98,99,100,101,102,103,104,105,106,107,108,109,110,111,112,113,114,115,116,117,118,119,120,121,122,48,49,50,51,52,53,54,55,56,57,95]
theorem Zp1 (c:UInt8):lettB.contains c=chB [95] c:=by
 have h:∀ n:Fin 256,lettB.contains (UInt8.ofNat n.val)=chB [95] (UInt8.ofNat n.val):=by decide +kernel
 have:=h ⟨c.toNat,c.toNat_lt⟩
 simpa using this
def ZW (n a b:Int):Bool:=decide (a≤n)&&decide (n≤b)
theorem Qb (n a b:Int):R K (.call 193 [.int .i64 n,.int .i64 a,.int .i64 b] [])=some (.bool (ZW n a b),[]):=by
 rw [Zpg]
 simp -implicitDefEqProofs only [go_sem,simprocAttr,Tryz.f193]
 repeat' ((first | apply ZI | apply ZR | apply ZY)<;>intro hc<;>simp -implicitDefEqProofs only [hc,go_sem,simprocAttr])
 all_goals simp [ZW, *]
theorem Zm2 (s:List UInt8) (hs:s.length≤100000000):R K (.call 103 [.str s,.bool true] [])=some (.bool (ZaF s),[]):=by
 have hp:R K (.call 194 [.str s,.str lettB] [])=some (.str (Lib.trimS s lettB),[]):=ZaG (by
  show Zi8 [.str s,.str lettB]=_
  simp only [Zi8]
  have h1:decide (s.length≤9223372036854775807)=true:=decide_eq_true (by omega)
  have h2:(decide (lettB.length < 4294967281)&&ZoM lettB)=true:=by decide
  rw [if_pos (by rw [h1,h2];rfl)])
 have he:(Lib.trimS s lettB==[])=s.all (chB [95]):=by
  have h:=ZpM s lettB
  have e:(fun c=>lettB.contains c)=chB [95]:=funext Zp1
  rw [e] at h
  rw [Bool.eq_iff_iff,beq_iff_eq];exact h
 unfold lettB at hp he
 cases s with
 | nil =>
  rw [ZiL]
  simp -implicitDefEqProofs only [go_sem,simprocAttr,Tryz.f103,bne,beq_self_eq_true]
  rfl
 | cons c r =>
  have hg:at? (c::r) (0:Int)=some c:=rfl
  have h0:((c::r:List UInt8)==[])=false:=rfl
  have e:ZaF (c::r)=((c::r).all (chB [95])&&decide ((c::r).length≤40)&&(decide (97≤c.toNat)&&decide (c.toNat≤122))):=rfl
  have hw:ZC .i64 ((c.toNat:Int))=(c.toNat:Int):=ZV (by omega) (by have:=c.toNat_lt;omega)
  have hx:=Qb (c.toNat:Int) 97 122
  have hx2:ZW (c.toNat:Int) 97 122=(decide (97≤c.toNat)&&decide (c.toNat≤122)):=by
   unfold ZW
   rw [Bool.eq_iff_iff];simp;omega
  rw [hx2] at hx
  rw [e]
  generalize (c::r).all (chB [95])=x at he ⊢
  have hm:(37≤XT)=True:=eq_true (by decide)
  rw [ZiL]
  simp -implicitDefEqProofs only [go_sem,simprocAttr,Tryz.f103,hp,he,hg,hx,hw,h0,bne,hm]
  repeat' ((first | apply ZI | apply ZR | apply ZY)<;>intro hc<;>simp -implicitDefEqProofs only [hc,go_sem,simprocAttr,hp,he,hg,hx,hw,h0,bne,hm])
  ·rename_i hl
   simp only [decide_eq_true_eq] at hl
   have h9:r.length≤39:=by omega
   simp [h9]
  ·simp only [decide_eq_false_iff_not] at hc
   have h9:¬r.length≤39:=by omega
   simp [h9]
theorem Zgr (s b:List UInt8):(Op.bytesLess s b||s==b)=decide (Op.bytesLess s b=true∨s=b):=by
 rw [Bool.eq_iff_iff];simp
theorem Zdn (s b:List UInt8) (first:Bool) (hs:s.length≤100000000):R K (.call 59 [.str s,.str b,.bool first] [])=some (I (Qh s b first),[]):=by
 have hn:=Zm2 s hs
 unfold Qh
 generalize ZaF s=x at hn ⊢
 have hl:=Zgr s b
 rw [ZsD]
 simp -implicitDefEqProofs only [go_sem,simprocAttr,Tryz.f59,hn,hl]
 repeat' ((first | apply ZI | apply ZR | apply ZY)<;>intro hc<;>simp -implicitDefEqProofs only [hc,go_sem,simprocAttr,hn,hl])
 all_goals simp_all
theorem Zat (s b:List UInt8) (i:Nat) (f:AV) (h:Zd) (hs:s.length≤100000000) (hu:Z6 h.length (ZP h)=true) (hc:0 < i→Yv nlA (R K) h [] f=some (.str b,h)):R K (.call 171 [.str s,I (i:Int),f] h)=some (I (Qh s b (i==0)),h):=by
 have hn:=Ziv s hs
 unfold Qh
 generalize ZaF s=x at hn ⊢
 have hl:=Zgr s b
 cases i with
 | zero =>
  have d:((0:Nat):Int)=0:=rfl
  rw [Ziy]
  simp -implicitDefEqProofs only [go_sem,simprocAttr,Tryz.f171,hn,hu,d]
  repeat' ((first | apply ZI | apply ZR | apply ZY)<;>intro hc<;>simp -implicitDefEqProofs only [hc,go_sem,simprocAttr,hn,hu,d])
  all_goals simp_all
 | succ i =>
  have hb:=hc (by omega)
  have d:(0:Int) < ((i+1:Nat):Int):=by omega
  have d2:(((i+1:Nat):Int) > 0)=True:=eq_true d
  rw [Ziy]
  simp -implicitDefEqProofs only [go_sem,simprocAttr,Tryz.f171,hn,hu,hb,hl,d,d2]
  repeat' ((first | apply ZI | apply ZR | apply ZY)<;>intro hc<;>simp -implicitDefEqProofs only [hc,go_sem,simprocAttr,hn,hu,hb,hl,d,d2])
  all_goals simp_all
abbrev Zan (c:Col):AV:=.agg (ZO c)
abbrev ZX (t:Tbl):AV:=.agg (Za t)
theorem YR {l:List Col} {j:Nat} {c:Col} (h:l[j]? = some c):at? (l.map ZO) (j:Int)=some (ZO c):=Z2 (by simp [h])
theorem ZG {l:List Tbl} {j:Nat} {c:Tbl} (h:l[j]? = some c):at? (l.map Za) (j:Int)=some (Za c):=Z2 (by simp [h])
theorem Zl2 (f:AV) (h:Zd) (n:List UInt8) (hu:Z6 h.length (ZP h)=true) (cols:List Col) (hl:cols.length≤1000000) (hc:∀ c:Col,Yv nlA (R K) h [Zan c] f=some (.bool (c.nm==n),h)) (ks:List It) :
  ∀ (q j:Nat) (i:Int) (Bo:Code),Zf Tryz.f16 0 Bo→i=(j:Int)→cols.length=j+q →
  RL K (.run 16 h.length (.code Bo::.lp Bo (some ([0,1,7,8],[])) h.length::.blk 0 h.length::ks) [(0,.rows (cols.map ZO)),(1,f),(7,I (cols.length:Int)),(8,I i)] h) =
  if ixN n ((cols.drop j).map (·.nm)) j=-1 then R K (.run 16 h.length ks [] h) else some (I (ixN n ((cols.drop j).map (·.nm)) j),h)
 | 0,j,i,Bo,hB,hi,hq=>by
  subst hi
  have d:¬(j:Int) < (cols.length:Int):=by omega
  rw [List.drop_of_length_le (by omega),List.map_nil,show ixN n [] j=-1 from rfl,if_pos rfl]
  unfold Zf at hB
  simp -implicitDefEqProofs only [go_sem,simprocAttr,Tryz.f16,Zb] at hB
  subst hB
  rw [Zc]
  simp -implicitDefEqProofs only [go_sem,simprocAttr,d]
 | q+1,j,i,Bo,hB,hi,hq=>by
  subst hi
  have hB':=hB
  have d:(j:Int) < (cols.length:Int):=by omega
  have h7:ZC .i64 ((j:Int)+1)=((j+1:Nat):Int):=by rw [ZV (by omega) (by omega)];omega
  obtain ⟨c,hcj⟩:∃ c,cols[j]? = some c:=⟨cols[j]'(by omega),List.getElem?_eq_getElem _⟩
  have hg:=YR hcj
  have hx:=hc c
  have ih:=Zl2 f h n hu cols hl hc ks q (j+1) _ Bo hB' rfl (by omega)
  rw [ZE hcj,List.map_cons]
  simp only [Zan,ZO] at hg hx
  by_cases hk:c.nm=n
  ·have e1:ixN n (c.nm::(cols.drop (j+1)).map (·.nm)) j=(j:Int):=by simp only [ixN];rw [if_pos hk]
   have dk:(c.nm==n)=true:=by simpa using hk
   rw [dk] at hx
   rw [e1,if_neg (by omega)]
   unfold Zf at hB
   simp -implicitDefEqProofs only [go_sem,simprocAttr,Tryz.f16,Zb] at hB
   subst hB
   rw [Zc]
   simp -implicitDefEqProofs only [go_sem,simprocAttr,d,h7,hg,hx,hu]
  ·have e1:ixN n (c.nm::(cols.drop (j+1)).map (·.nm)) j=ixN n ((cols.drop (j+1)).map (·.nm)) (j+1):=by conv=>lhs;simp only [ixN];rw [if_neg hk]
   have dk:(c.nm==n)=false:=by simpa using hk
   rw [dk] at hx
   rw [e1]
   unfold Zf at hB
   simp -implicitDefEqProofs only [go_sem,simprocAttr,Tryz.f16,Zb] at hB
   subst hB
   rw [Zc]
   simp -implicitDefEqProofs only [go_sem,simprocAttr,d,h7,hg,hx,hu]
   rw [ih]
theorem ZhK (f:AV) (h:Zd) (n:List UInt8) (hu:Z6 h.length (ZP h)=true) (cols:List Col) (hl:cols.length≤1000000) (hc:∀ c:Col,Yv nlA (R K) h [Zan c] f=some (.bool (c.nm==n),h)) :
  R K (.call 16 [.rows (cols.map ZO),f] h)=some (I (ixN n (cols.map (·.nm)) 0),h):=by
 have lk:=fun ks B hB=>Zl2 f h n hu cols hl hc ks cols.length 0 0 B hB rfl (by omega)
 simp only [List.drop_zero] at lk
 rw [Zsv]
 simp -implicitDefEqProofs only [go_sem,simprocAttr,Tryz.f16,List.length_map]
 rw [lk _ _ ?_]
 ·split
  ·rename_i h0
   rw [h0]
   simp -implicitDefEqProofs only [go_sem,simprocAttr,hu]
  ·rfl
 ·rfl
theorem Zml (f:AV) (h:Zd) (n:List UInt8) (hu:Z6 h.length (ZP h)=true) (cols:List Tbl) (hl:cols.length≤1000000) (hc:∀ c:Tbl,Yv nlA (R K) h [ZX c] f=some (.bool (c.nm==n),h)) (ks:List It) :
  ∀ (q j:Nat) (i:Int) (Bo:Code),Zf Tryz.f57 0 Bo→i=(j:Int)→cols.length=j+q →
  RL K (.run 57 h.length (.code Bo::.lp Bo (some ([0,1,7,8],[])) h.length::.blk 0 h.length::ks) [(0,.rows (cols.map Za)),(1,f),(7,I (cols.length:Int)),(8,I i)] h) =
  if ixN n ((cols.drop j).map (·.nm)) j=-1 then R K (.run 57 h.length ks [] h) else some (I (ixN n ((cols.drop j).map (·.nm)) j),h)
 | 0,j,i,Bo,hB,hi,hq=>by
  subst hi
  have d:¬(j:Int) < (cols.length:Int):=by omega
  rw [List.drop_of_length_le (by omega),List.map_nil,show ixN n [] j=-1 from rfl,if_pos rfl]
  unfold Zf at hB
  simp -implicitDefEqProofs only [go_sem,simprocAttr,Tryz.f57,Zb] at hB
  subst hB
  rw [Zc]
  simp -implicitDefEqProofs only [go_sem,simprocAttr,d]
 | q+1,j,i,Bo,hB,hi,hq=>by
  subst hi
  have hB':=hB
  have d:(j:Int) < (cols.length:Int):=by omega
  have h7:ZC .i64 ((j:Int)+1)=((j+1:Nat):Int):=by rw [ZV (by omega) (by omega)];omega
  obtain ⟨c,hcj⟩:∃ c,cols[j]? = some c:=⟨cols[j]'(by omega),List.getElem?_eq_getElem _⟩
  have hg:=ZG hcj
  have hx:=hc c
  have ih:=Zml f h n hu cols hl hc ks q (j+1) _ Bo hB' rfl (by omega)
  rw [ZE hcj,List.map_cons]
  simp only [ZX,Za] at hg hx
  by_cases hk:c.nm=n
  ·have e1:ixN n (c.nm::(cols.drop (j+1)).map (·.nm)) j=(j:Int):=by simp only [ixN];rw [if_pos hk]
   have dk:(c.nm==n)=true:=by simpa using hk
   rw [dk] at hx
   rw [e1,if_neg (by omega)]
   unfold Zf at hB
   simp -implicitDefEqProofs only [go_sem,simprocAttr,Tryz.f57,Zb] at hB
   subst hB
   rw [Zc]
   simp -implicitDefEqProofs only [go_sem,simprocAttr,d,h7,hg,hx,hu]
  ·have e1:ixN n (c.nm::(cols.drop (j+1)).map (·.nm)) j=ixN n ((cols.drop (j+1)).map (·.nm)) (j+1):=by conv=>lhs;simp only [ixN];rw [if_neg hk]
   have dk:(c.nm==n)=false:=by simpa using hk
   rw [dk] at hx
   rw [e1]
   unfold Zf at hB
   simp -implicitDefEqProofs only [go_sem,simprocAttr,Tryz.f57,Zb] at hB
   subst hB
   rw [Zc]
   simp -implicitDefEqProofs only [go_sem,simprocAttr,d,h7,hg,hx,hu]
   rw [ih]
theorem ZmN (f:AV) (h:Zd) (n:List UInt8) (hu:Z6 h.length (ZP h)=true) (cols:List Tbl) (hl:cols.length≤1000000) (hc:∀ c:Tbl,Yv nlA (R K) h [ZX c] f=some (.bool (c.nm==n),h)) :
  R K (.call 57 [.rows (cols.map Za),f] h)=some (I (ixN n (cols.map (·.nm)) 0),h):=by
 have lk:=fun ks B hB=>Zml f h n hu cols hl hc ks cols.length 0 0 B hB rfl (by omega)
 simp only [List.drop_zero] at lk
 rw [Zsu]
 simp -implicitDefEqProofs only [go_sem,simprocAttr,Tryz.f57,List.length_map]
 rw [lk _ _ ?_]
 ·split
  ·rename_i h0
   rw [h0]
   simp -implicitDefEqProofs only [go_sem,simprocAttr,hu]
  ·rfl
 ·rfl
abbrev nmH (n:List UInt8):Zd:=[.cells [.str n]]
theorem ZpW (n:List UInt8) (c:Col):R K (.call 188 [Zan c,.ptr 0 0] (nmH n))=some (.bool (c.nm==n),nmH n):=by
 rw [ZpY]
 simp -implicitDefEqProofs only [go_sem,simprocAttr,Tryz.f188,ZO]
theorem Zot (n:List UInt8) (c:Col):R K (.call 106 [Zan c,.ptr 0 0] (nmH n))=some (.bool (c.nm==n),nmH n):=by
 rw [Zq9]
 simp -implicitDefEqProofs only [go_sem,simprocAttr,Tryz.f106,ZO]
theorem Zs5 (n:List UInt8) (t:Tbl):R K (.call 98 [ZX t,.ptr 0 0] (nmH n))=some (.bool (t.nm==n),nmH n):=by
 rw [ZsP]
 simp -implicitDefEqProofs only [go_sem,simprocAttr,Tryz.f98,Za]
theorem ZoF (n:List UInt8) (c:Col):Yv nlA (R K) (nmH n) [Zan c] (.fn 188 [.ptr 0 0])=some (.bool (c.nm==n),nmH n):=by
 have hk:=ZpW n c
 simp only [Zan,ZO] at hk ⊢
 simp -implicitDefEqProofs only [go_sem,simprocAttr,hk]
theorem ZnM (n:List UInt8) (c:Col):Yv nlA (R K) (nmH n) [Zan c] (.fn 106 [.ptr 0 0])=some (.bool (c.nm==n),nmH n):=by
 have hk:=Zot n c
 simp only [Zan,ZO] at hk ⊢
 simp -implicitDefEqProofs only [go_sem,simprocAttr,hk]
theorem ZqB (n:List UInt8) (t:Tbl):R K (.call 58 [ZX t,.ptr 0 0] (nmH n))=some (.bool (t.nm==n),nmH n):=by
 rw [ZsX]
 simp -implicitDefEqProofs only [go_sem,simprocAttr,Tryz.f58,Za]
theorem Zr0 (n:List UInt8) (t:Tbl):Yv nlA (R K) (nmH n) [ZX t] (.fn 98 [.ptr 0 0])=some (.bool (t.nm==n),nmH n):=by
 have hk:=Zs5 n t
 simp only [ZX,Za] at hk ⊢
 simp -implicitDefEqProofs only [go_sem,simprocAttr,hk]
theorem Zpf (n:List UInt8) (t:Tbl):Yv nlA (R K) (nmH n) [ZX t] (.fn 58 [.ptr 0 0])=some (.bool (t.nm==n),nmH n):=by
 have hk:=ZqB n t
 simp only [ZX,Za] at hk ⊢
 simp -implicitDefEqProofs only [go_sem,simprocAttr,hk]
theorem ZaN (n:List UInt8):Z6 (nmH n).length (ZP (nmH n))=true:=rfl
theorem Q5 (t:Tbl) (n:List UInt8) (hl:t.cols.length≤1000000):R K (.call 96 [ZX t,.str n] [])=some (I (ixN n (t.cols.map (·.nm)) 0),[]):=by
 have hi:=ZhK (.fn 188 [.ptr 0 0]) (nmH n) n (ZaN n) t.cols hl (ZoF n)
 rw [ZsT]
 simp -implicitDefEqProofs only [go_sem,simprocAttr,Tryz.f96,Za,hi]
theorem WQ (t:Tbl) (n:List UInt8) (hl:t.cols.length≤1000000):R K (.call 61 [ZX t,.str n] [])=some (I (ixN n (t.cols.map (·.nm)) 0),[]):=by
 have hi:=ZhK (.fn 106 [.ptr 0 0]) (nmH n) n (ZaN n) t.cols hl (ZnM n)
 rw [ZrW]
 simp -implicitDefEqProofs only [go_sem,simprocAttr,Tryz.f61,Za,hi]
theorem Zbn (x:List Tbl) (n:List UInt8) (hl:x.length≤1000000):R K (.call 49 [WI x,.str n] [])=some (I (ixN n (x.map (·.nm)) 0),[]):=by
 have hi:=ZmN (.fn 98 [.ptr 0 0]) (nmH n) n (ZaN n) x hl (Zr0 n)
 rw [ZsH]
 simp -implicitDefEqProofs only [go_sem,simprocAttr,Tryz.f49,hi]
theorem Yu (x:List Tbl) (n:List UInt8) (hl:x.length≤1000000):R K (.call 20 [WI x,.str n] [])=some (I (ixN n (x.map (·.nm)) 0),[]):=by
 have hi:=ZmN (.fn 58 [.ptr 0 0]) (nmH n) n (ZaN n) x hl (Zpf n)
 rw [Zs3]
 simp -implicitDefEqProofs only [go_sem,simprocAttr,Tryz.f20,hi]
abbrev V (k n:Int) (s:List UInt8):AV:=.agg [.int .i64 k,.int .i64 n,.str s]
theorem Zs {i n:Nat} (h:i < n) (hn:n≤9223372036854775807):ZC .i64 ((i:Int)+1)=((i+1:Nat):Int):=by rw [ZV (by omega) (by omega)];rfl
theorem Ze {α:Type} {l:List α} {i:Nat} (h:i < l.length):∃ x,l[i]? = some x:=⟨l[i],List.getElem?_eq_getElem h⟩
theorem Qd (n a b:Int):R K (.call 282 [.int .i64 n,.int .i64 a,.int .i64 b] [])=some (.bool (ZW n a b),[]):=by
 rw [Zqw]
 simp -implicitDefEqProofs only [go_sem,simprocAttr,Tryz.f282]
 repeat' ((first | apply ZI | apply ZR | apply ZY)<;>intro hc<;>simp -implicitDefEqProofs only [hc,go_sem,simprocAttr])
 all_goals simp [ZW, *]
theorem Znm (n a b:Int):R K (.call 228 [.int .i64 n,.int .i64 a,.int .i64 b] [])=some (.bool (ZW n a b),[]):=by
 rw [ZqO]
 simp -implicitDefEqProofs only [go_sem,simprocAttr,Tryz.f228]
 repeat' ((first | apply ZI | apply ZR | apply ZY)<;>intro hc<;>simp -implicitDefEqProofs only [hc,go_sem,simprocAttr])
 all_goals simp [ZW, *]
def Wr (v:Val):Bool:=if v.k=0 then v.n==0&&v.s==[] else if v.k=3 then v.n==0 else ZW v.k 1 4&&v.s==[]
theorem ZaB (k n:Int) (s:List UInt8):R K (.call 283 [V k n s] [])=some (.bool (Wr ⟨k,n,s⟩),[]):=by
 rw [Zpl]
 simp -implicitDefEqProofs only [go_sem,simprocAttr,Tryz.f283,Qd]
 repeat' ((first | apply ZI | apply ZR | apply ZY)<;>intro hc<;>simp -implicitDefEqProofs only [hc,go_sem,simprocAttr,Qd])
 all_goals simp_all [Wr]
def ok7 (s:List UInt8):Bool:=s.all fun c=>decide (32≤c.toNat)&&decide (c.toNat≤126)
theorem JN (b:UInt8) (s:List UInt8):ok7 (b::s)=(decide (32≤b.toNat)&&decide (b.toNat≤126)&&ok7 s):=by simp [ok7]
theorem ZlW (k n:Int) (s:List UInt8) (hs:s.length≤100) (ks:List It):∀ (m i:Nat) (j:Int) (B:Code),Zf Tryz.f284 1 B→j=(i:Int)→s.length=i+m →
  RL K (.run 284 0 (.code B::.lp B (some ([1,23,24],[])) 1::.blk 1 1::ks) [(1,.ptr 0 0),(23,.int .i64 s.length),(24,.int .i64 j)] [.cells [.int .i64 k,.int .i64 n,.str s]]) =
  if ok7 (s.drop i)=true then R K (.run 284 0 ks [] [.cells [.int .i64 k,.int .i64 n,.str s]]) else some (.bool false,[])
 | 0,i,j,B,hB,hj,hm=>by
  subst hj
  have h1:¬((i:Int) < (s.length:Int)):=by omega
  unfold Zf at hB
  simp -implicitDefEqProofs only [go_sem,simprocAttr,Tryz.f284,Zb] at hB
  subst hB
  rw [Zc]
  simp -implicitDefEqProofs only [go_sem,simprocAttr,h1]
  rw [List.drop_of_length_le (by omega)]
  rfl
 | m+1,i,j,B,hB,hj,hm=>by
  subst hj
  have h1:((i:Int) < (s.length:Int)):=by omega
  have hB':=hB
  obtain ⟨b,hb⟩:∃ b,s[i]? = some b:=⟨s[i]'(by omega),List.getElem?_eq_getElem _⟩
  have hg:=Zje hb
  have hw:ZC .i64 ((i:Int)+1)=((i+1:Nat):Int):=by rw [ZV (by omega) (by omega)];rfl
  unfold Zf at hB
  simp -implicitDefEqProofs only [go_sem,simprocAttr,Tryz.f284,Zb] at hB
  subst hB
  rw [Zc]
  rw [ZE hb]
  have ih:=ZlW k n s hs ks m (i+1) _ _ hB' rfl (by omega)
  simp -implicitDefEqProofs only [go_sem,simprocAttr,h1,hg,hw]
  repeat' ((first | apply ZI | apply ZR | apply ZY)<;>intro hc<;>simp -implicitDefEqProofs only [hc,go_sem,simprocAttr,h1,hg,hw])
  all_goals simp only [decide_eq_true_eq,decide_eq_false_iff_not] at *
  ·have:ok7 (b::s.drop (i+1))=false:=by simp [JN];omega
   simp [this]
  ·have:ok7 (b::s.drop (i+1))=false:=by simp [JN];omega
   simp [this]
  ·have:ok7 (b::s.drop (i+1))=ok7 (s.drop (i+1)):=by
    have:32≤b.toNat∧b.toNat≤126:=by omega
    simp [JN,this]
   rw [this,ih]
def XJ (v:Val):Bool:=if v.k=1 then ZW v.n 0 1 else if v.k=2 then ZW v.n (-999999999999999) 999999999999999 else if v.k=4 then ZW v.n 0 253402300799 else ok7 v.s
theorem ZeC (k n:Int) (s:List UInt8) (hs:s.length≤100):R K (.call 284 [V k n s] [])=some (.bool (XJ ⟨k,n,s⟩),[]):=by
 rw [ZqN]
 simp -implicitDefEqProofs only [go_sem,simprocAttr,Tryz.f284,Qd]
 repeat' ((first | apply ZI | apply ZR | apply ZY)<;>intro hc<;>simp -implicitDefEqProofs only [hc,go_sem,simprocAttr,Qd])
 ·simp_all [XJ]
 ·simp_all [XJ]
 ·simp_all [XJ]
 ·rw [ZlW k n s hs _ s.length 0 0 _ ?_ rfl (by omega),List.drop_zero]
  ·split
   ·simp -implicitDefEqProofs only [go_sem,simprocAttr]
    simp_all [XJ]
   ·simp_all [XJ]
  ·rfl
theorem Zcv:∀ (s:List UInt8) (i:Nat) (b:UInt8),s[i]? = some b→(Zx s)[i]? = some [.int .u8 (b.toNat:Int)]
 | [],i,b,h=>by simp at h
 | c::r,0,b,h=>by simp at h;subst h;rfl
 | c::r,i+1,b,h=>by simpa [Zx] using Zcv r i b (by simpa using h)
theorem Zjf (s:List UInt8) (hs:s.length≤100) (ks:List It):∀ (m i:Nat) (j:Int) (B:Code),Zf Tryz.f296 0 B→j=(i:Int)→s.length=i+m →
  RL K (.run 296 0 (.code B::.lp B (some ([6,7,8],[])) 0::.blk 0 0::ks) [(6,.rows (Zx s)),(7,.int .i64 s.length),(8,.int .i64 j)] []) =
  if ok7 (s.drop i)=true then R K (.run 296 0 ks [] []) else some (.bool false,[])
 | 0,i,j,B,hB,hj,hm=>by
  subst hj
  have h1:¬((i:Int) < (s.length:Int)):=by omega
  unfold Zf at hB
  simp -implicitDefEqProofs only [go_sem,simprocAttr,Tryz.f296,Zb] at hB
  subst hB
  rw [Zc]
  simp -implicitDefEqProofs only [go_sem,simprocAttr,h1]
  rw [List.drop_of_length_le (by omega)]
  rfl
 | m+1,i,j,B,hB,hj,hm=>by
  subst hj
  have h1:((i:Int) < (s.length:Int)):=by omega
  have hB':=hB
  obtain ⟨b,hb⟩:=Ze (l:=s) (i:=i) (by omega)
  have hg:=Z2 (Zcv s i b hb)
  have hw:=Zs (i:=i) (n:=s.length) (by omega) (by omega)
  unfold Zf at hB
  simp -implicitDefEqProofs only [go_sem,simprocAttr,Tryz.f296,Zb] at hB
  subst hB
  rw [Zc]
  rw [ZE hb]
  have ih:=Zjf s hs ks m (i+1) _ _ hB' rfl (by omega)
  simp -implicitDefEqProofs only [go_sem,simprocAttr,h1,hg,hw]
  repeat' ((first | apply ZI | apply ZR | apply ZY)<;>intro hc<;>simp -implicitDefEqProofs only [hc,go_sem,simprocAttr,h1,hg,hw])
  all_goals simp only [decide_eq_true_eq,decide_eq_false_iff_not] at *
  ·have:ok7 (b::s.drop (i+1))=false:=by simp [JN];omega
   simp [this]
  ·have:ok7 (b::s.drop (i+1))=false:=by simp [JN];omega
   simp [this]
  ·have:ok7 (b::s.drop (i+1))=ok7 (s.drop (i+1)):=by
    have:32≤b.toNat∧b.toNat≤126:=by omega
    simp [JN,this]
   rw [this,ih]
theorem Znb (s:List UInt8) (hs:s.length≤100):R K (.call 296 [.str s] [])=some (.bool (ok7 s),[]):=by
 rw [ZqG]
 simp -implicitDefEqProofs only [go_sem,simprocAttr,Tryz.f296,Ya]
 rw [Zjf s hs _ s.length 0 0 _ ?_ rfl (by omega),List.drop_zero]
 ·split
  ·simp -implicitDefEqProofs only [go_sem,simprocAttr]
   simp_all
  ·simp_all
 ·rfl
def QB (kd:Int) (v:Val):Int :=
 if ZW kd 1 4=false then 4 else if Wr v=false then 3 else if v.k≠0∧v.k≠kd then 8 else if 100 < v.s.length then 2 else if XJ v=false then 1 else 0
theorem Znc (kd k n:Int) (s:List UInt8):R K (.call 187 [I kd,V k n s] [])=some (I (QB kd ⟨k,n,s⟩),[]):=by
 by_cases hs:s.length≤100
 ·have hs':¬(100 < (s.length:Int)):=by omega
  have hs2:¬(100 < s.length):=by omega
  rw [Zka]
  simp -implicitDefEqProofs only [go_sem,simprocAttr,Tryz.f187,Qd,ZaB,ZeC k n s hs,hs']
  repeat' ((first | apply ZI | apply ZR | apply ZY)<;>intro hc<;>simp -implicitDefEqProofs only [hc,go_sem,simprocAttr,Qd,ZaB,ZeC k n s hs,hs'])
  all_goals simp_all [QB]
 ·have hs':(100 < (s.length:Int)):=by omega
  have hs2:(100 < s.length):=by omega
  rw [Zka]
  simp -implicitDefEqProofs only [go_sem,simprocAttr,Tryz.f187,Qd,ZaB,hs']
  repeat' ((first | apply ZI | apply ZR | apply ZY)<;>intro hc<;>simp -implicitDefEqProofs only [hc,go_sem,simprocAttr,Qd,ZaB,hs'])
  all_goals simp_all [QB]
def ZaR (kd:Int) (v:Val):Int :=
 if !(ZW v.k 0 4)||(v.k != 3&&v.s != [])||((v.k==3||v.k==0)&&v.n != 0) then 3
 else if kd≠0∧v.k≠0∧v.k≠kd then 8
 else if 100 < v.s.length then 2
 else if !(ok7 v.s)||(v.k==1&&!(ZW v.n 0 1))||(v.k==2&&!(ZW v.n (-999999999999999) 999999999999999))||(v.k==4&&!(ZW v.n 0 253402300799)) then 1
 else 0
set_option maxHeartbeats 4000000 in
theorem Zm9 (kd k n:Int) (s:List UInt8):R K (.call 195 [I kd,V k n s] [])=some (I (ZaR kd ⟨k,n,s⟩),[]):=by
 by_cases hs:s.length≤100
 ·have hs':¬(100 < (s.length:Int)):=by omega
  have hs2:¬(100 < s.length):=by omega
  rw [Zkf]
  simp -implicitDefEqProofs only [go_sem,simprocAttr,Tryz.f195,Qb,Znb s hs,hs']
  repeat' ((first | apply ZI | apply ZR | apply ZY)<;>intro hc<;>simp -implicitDefEqProofs only [hc,go_sem,simprocAttr,Qb,Znb s hs,hs'])
  all_goals simp_all [ZaR]
 ·have hs':(100 < (s.length:Int)):=by omega
  have hs2:(100 < s.length):=by omega
  rw [Zkf]
  simp -implicitDefEqProofs only [go_sem,simprocAttr,Tryz.f195,Qb,hs']
  repeat' ((first | apply ZI | apply ZR | apply ZY)<;>intro hc<;>simp -implicitDefEqProofs only [hc,go_sem,simprocAttr,Qb,hs'])
  all_goals simp_all [ZaR]
theorem Zno (kd:Int) (v:Val) (hk:ZW kd 1 4=true):ZaR kd v=QB kd v:=by
 obtain ⟨k,n,s⟩:=v
 by_cases hw:ZW k 0 4=true
 ·have h5:k=0∨k=1∨k=2∨k=3∨k=4:=by
   simp only [ZW,Bool.and_eq_true,decide_eq_true_eq] at hw
   omega
  rcases h5 with rfl | rfl | rfl | rfl | rfl<;>by_cases hs:s=[]<;>(try subst hs)<;>simp_all [ZaR,QB,Wr,XJ,ZW,ok7]
  all_goals (rcases (show kd=1∨kd=2∨kd=3∨kd=4 by omega) with rfl | rfl | rfl | rfl<;>simp)
  all_goals (split<;>split<;>first | rfl | omega)
 ·have h6:Wr ⟨k,n,s⟩=false:=by
   simp only [ZW,Bool.and_eq_true,decide_eq_true_eq] at hw
   have h7:¬k=0:=by omega
   have h8:¬k=3:=by omega
   have h9:ZW k 1 4=false:=by
    rw [←Bool.not_eq_true];simp only [ZW,Bool.and_eq_true,decide_eq_true_eq];omega
   simp [Wr,h7,h8,h9]
  rw [Bool.not_eq_true] at hw
  simp [ZaR,QB,hw,hk,h6]
theorem ZcN (kd k n:Int) (s:List UInt8):R K (.call 104 [I kd,V k n s] [])=some (I (QB kd ⟨k,n,s⟩),[]):=by
 cases hk:ZW kd 1 4 with
 | false =>
  rw [ZiC]
  simp -implicitDefEqProofs only [go_sem,simprocAttr,Tryz.f104,Qb,hk]
  simp [QB,hk]
 | true =>
  have h1:=Zm9 kd k n s
  rw [Zno kd _ hk] at h1
  rw [ZiC]
  simp -implicitDefEqProofs only [go_sem,simprocAttr,Tryz.f104,Qb,hk,h1]
structure FitT (t:Tbl):Prop where
 nm:t.nm.length≤100000000
 cols:t.cols.length≤1000000
 key:t.key.length≤1000000
 fgn:t.fgn.length≤1000000
 idx:t.idx.length≤1000000
 col:∀ c∈t.cols,c.nm.length≤100000000
 fg:∀ f∈t.fgn,f.nm.length≤100000000∧f.cols.length≤1000000
 ix:∀ x∈t.idx,x.nm.length≤100000000∧x.cols.length≤1000000
abbrev tbH (t:Tbl):Zd:=[.cells (Za t)]
def Zel (t:Tbl) (i:Nat):Int:=match t.cols[i]? with
 | some c=>if ZaF c.nm=false then 5 else if ixN c.nm (t.cols.map (·.nm)) 0 < (i:Int) then 6 else QB c.kd c.df
 | none=>0
theorem Znn (t:Tbl) (ht:FitT t) (i:Nat) (hi:i < t.cols.length):R K (.call 280 [I (i:Int),.ptr 0 0] (tbH t))=some (I (Zel t i),tbH t):=by
 obtain ⟨c,hc⟩:=Ze hi
 have hg:=YR hc
 have hm:c∈t.cols:=List.mem_of_getElem? hc
 have h1:=Ziv c.nm (ht.col c hm)
 have h2:=Q5 t c.nm ht.cols
 have h3:=Znm c.kd 1 4
 have h4:=Znc c.kd c.df.k c.df.n c.df.s
 unfold Zel
 rw [hc]
 simp only
 have h5:ZW c.kd 1 4=false→QB c.kd c.df=4:=fun h=>by simp [QB,h]
 simp only [ZX,Za,ZO] at h2 hg
 generalize QB c.kd ⟨c.df.k,c.df.n,c.df.s⟩=y at *
 generalize ZaF c.nm=x at *
 rw [Zpw]
 simp -implicitDefEqProofs only [go_sem,simprocAttr,Tryz.f280,Za,ZO,hg,h1,h2,h3,h4]
 repeat' ((first | apply ZI | apply ZR | apply ZY)<;>intro hc<;>simp -implicitDefEqProofs only [hc,go_sem,simprocAttr,Za,ZO,hg,h1,h2,h3,h4])
 all_goals (simp_all [Za]<;>(try (intro;omega)))
theorem ZnT (t:Tbl) (ht:FitT t):Wb (tbH t) (.fn 280 [.ptr 0 0]) (Zel t) t.cols.length:=fun i hi=>by
 have hk:=Znn t ht i hi
 simp only [tbH,Za] at hk ⊢
 simp -implicitDefEqProofs only [go_sem,simprocAttr,hk]
theorem ZeY (t:Tbl):Z6 (tbH t).length (ZP (tbH t))=true:=rfl
def QU (t:Tbl):Int:=evE (Zel t) 0 t.cols.length
theorem Zny (t:Tbl) (ht:FitT t):R K (.call 174 [ZX t] [])=some (I (QU t),[]):=by
 have hi:=YS (.fn 280 [.ptr 0 0]) (tbH t) (Zel t) t.cols.length ht.cols (ZeY t) (ZnT t ht)
 unfold QU
 simp only [tbH,Za] at hi
 rw [Zqu]
 simp -implicitDefEqProofs only [go_sem,simprocAttr,Tryz.f174,Za,hi,List.length_map]
theorem Wg {l:List (List UInt8)} {j:Nat} {c:List UInt8} (h:l[j]? = some c):at? (SLs l) (j:Int)=some [.str c]:=Z2 (by simp [h])
theorem ZtX (n:List UInt8) (l:List (List UInt8)) (hl:l.length≤1000000) (ks:List It):∀ (q j:Nat) (i:Int) (Bo:Code),Zf Tryz.f56 0 Bo→i=(j:Int)→l.length=j+q →
  RL K (.run 56 0 (.code Bo::.lp Bo (some ([0,1,7,8],[])) 0::.blk 0 0::ks) [(0,.rows (SLs l)),(1,.str n),(7,I (l.length:Int)),(8,I i)] []) =
  if ixN n (l.drop j) j=-1 then R K (.run 56 0 ks [] []) else some (I (ixN n (l.drop j) j),[])
 | 0,j,i,Bo,hB,hi,hq=>by
  subst hi
  have d:¬(j:Int) < (l.length:Int):=by omega
  rw [List.drop_of_length_le (by omega),show ixN n [] j=-1 from rfl,if_pos rfl]
  unfold Zf at hB
  simp -implicitDefEqProofs only [go_sem,simprocAttr,Tryz.f56,Zb] at hB
  subst hB
  rw [Zc]
  simp -implicitDefEqProofs only [go_sem,simprocAttr,d]
 | q+1,j,i,Bo,hB,hi,hq=>by
  subst hi
  have hB':=hB
  have d:(j:Int) < (l.length:Int):=by omega
  have h7:ZC .i64 ((j:Int)+1)=((j+1:Nat):Int):=Zs (n:=l.length) (by omega) (by omega)
  obtain ⟨c,hcj⟩:=Ze (l:=l) (i:=j) (by omega)
  have hg:=Wg hcj
  have ih:=ZtX n l hl ks q (j+1) _ Bo hB' rfl (by omega)
  rw [ZE hcj]
  by_cases hk:c=n
  ·have e1:ixN n (c::l.drop (j+1)) j=(j:Int):=by simp only [ixN];rw [if_pos hk]
   have dk:(n==c)=true:=by simpa using hk.symm
   rw [e1,if_neg (by omega)]
   unfold Zf at hB
   simp -implicitDefEqProofs only [go_sem,simprocAttr,Tryz.f56,Zb] at hB
   subst hB
   rw [Zc]
   simp -implicitDefEqProofs only [go_sem,simprocAttr,d,h7,hg,dk]
  ·have e1:ixN n (c::l.drop (j+1)) j=ixN n (l.drop (j+1)) (j+1):=by conv=>lhs;simp only [ixN];rw [if_neg hk]
   have dk:(n==c)=false:=by simpa using fun e:n=c=>hk e.symm
   rw [e1]
   unfold Zf at hB
   simp -implicitDefEqProofs only [go_sem,simprocAttr,Tryz.f56,Zb] at hB
   subst hB
   rw [Zc]
   simp -implicitDefEqProofs only [go_sem,simprocAttr,d,h7,hg,dk]
   rw [ih]
theorem ZzI (n:List UInt8) (l:List (List UInt8)) (hl:l.length≤1000000):R K (.call 56 [.rows (SLs l),.str n] [])=some (I (ixN n l 0),[]):=by
 have lk:=fun ks B hB=>ZtX n l hl ks l.length 0 0 B hB rfl (by omega)
 simp only [List.drop_zero] at lk
 rw [Zsr]
 simp -implicitDefEqProofs only [go_sem,simprocAttr,Tryz.f56,List.length_map]
 rw [lk _ _ ?_]
 ·split
  ·rename_i h0
   rw [h0]
   simp -implicitDefEqProofs only [go_sem,simprocAttr]
  ·rfl
 ·rfl
theorem Xx (n:List UInt8) (l:List (List UInt8)) (hl:l.length≤1000000):R K (.call 18 [.rows (SLs l),.str n] [])=some (.bool (l.contains n),[]):=by
 have hi:=ZzI n l hl
 have e:decide ((0:Int)≤ixN n l 0)=l.contains n:=by
  rw [Bool.eq_iff_iff,decide_eq_true_eq,List.contains_iff_mem]
  have h1:=W2 n l 0
  rcases J7 n l 0 with h2 | h2
  ·rw [h2];simp [h1.1 h2]
  ·constructor
   ·intro _
    refine Classical.byContradiction fun h3=>?_
    have:=h1.2 h3
    omega
   ·intro _;omega
 rw [Zr7]
 simp -implicitDefEqProofs only [go_sem,simprocAttr,Tryz.f18,hi,e]
theorem Jb {t:Tbl} {n:List UInt8} (h:¬ixN n (t.cols.map (·.nm)) 0 < 0):∃ (a:Nat) (c:Col),ixN n (t.cols.map (·.nm)) 0=(a:Int)∧t.cols[a]? = some c:=by
 have h1:=Zhq n (t.cols.map (·.nm)) 0
 rw [List.length_map] at h1
 obtain ⟨a,ha⟩:=Int.eq_ofNat_of_zero_le (Int.not_lt.1 h)
 exact ⟨a,t.cols[a]'(by omega),ha,List.getElem?_eq_getElem _⟩
def Wh (t:Tbl) (l:List (List UInt8)) (m:Col→Int) (i:Nat):Int:=match l[i]? with
 | some n=>if ixN n (t.cols.map (·.nm)) 0 < 0 then 5 else if (l.take i).contains n=true then 6 else (match t.cols[(ixN n (t.cols.map (·.nm)) 0).toNat]? with
  | some c=>m c
  | none=>0)
 | none=>0
abbrev nsH (t:Tbl) (l:List (List UInt8)) (g:Nat):Zd:=[.cells (Za t),.cells [.rows (SLs l)],.cells [.fn g []]]
theorem ZeA (a:List (List UInt8)) (s:List UInt8):SLs a++[[AV.str s]]=SLs (a++[s]):=by simp [SLs]
theorem Zq:∀ l:List (List UInt8),ZL (SLs l)=[]
 | []=>rfl
 | s::l=>by simpa [SLs,ZL,Zk,Zm] using Zq l
theorem Yx (a:List (List UInt8)):(SLs a).length=a.length:=by simp [SLs]
theorem Wy (l:List (List UInt8)) (i:Nat):List.take i (SLs l)=SLs (l.take i):=by simp [SLs,List.map_take]
theorem Xh:∀ l:List (List UInt8),YB 1 (SLs l)=true
 | []=>rfl
 | s::l=>by simpa [YB] using Xh l
theorem ZsF (t:Tbl) (ht:FitT t) (l:List (List UInt8)) (hl:l.length≤1000000) (g:Nat) (hG:g=177∨g=181) (m:Col→Int) (hm:∀ c,R K (.call g [Zan c] [])=some (I (m c),[])) (i:Nat) (hi:i < l.length) :
  R K (.call 281 [I (i:Int),.ptr 0 0,.ptr 1 0,.ptr 2 0] (nsH t l g))=some (I (Wh t l m i),nsH t l g):=by
 obtain ⟨n,hn⟩:=Ze hi
 have hg:=Wg hn
 have h2:=Q5 t n ht.cols
 have h3:=Xx n (l.take i) (by simp;omega)
 have g1:((i:Int)≤(l.length:Int))=True:=eq_true (by omega)
 have g2:((0:Int)≤(i:Int))=True:=eq_true (by omega)
 unfold Wh
 rw [hn]
 simp only
 simp only [ZX,Za] at h2
 by_cases h4:ixN n (t.cols.map (·.nm)) 0 < 0
 ·rw [ZeS]
  simp -implicitDefEqProofs only [go_sem,simprocAttr,Tryz.f281,Za,hg,h2,h4]
  rfl
 ·obtain ⟨a,c,h5,h6⟩:=Jb h4
  have h7:=YR h6
  have h8:=hm c
  rw [if_neg h4,h5,Int.toNat_natCast,h6]
  rw [h5] at h2
  have h9:((a:Int) < 0)=False:=eq_false (by omega)
  simp only [Zan,ZO] at h7 h8 ⊢
  generalize (l.take i).contains n=x at *
  rcases hG with rfl | rfl
  ·rw [ZeS]
   simp -implicitDefEqProofs only [go_sem,simprocAttr,Tryz.f281,Za,hg,h2,h9,h3,Wy,Xh,g1,g2,Int.toNat_natCast,Nat.sub_zero,List.length_map,h7,h8]
   repeat' ((first | apply ZI | apply ZR | apply ZY)<;>intro hc<;>simp -implicitDefEqProofs only [hc,go_sem,simprocAttr,Za,hg,h2,h9,h3,Wy,Xh,g1,g2,Int.toNat_natCast,Nat.sub_zero,List.length_map,h7,h8])
   all_goals simp_all [Za]
  ·rw [ZeS]
   simp -implicitDefEqProofs only [go_sem,simprocAttr,Tryz.f281,Za,hg,h2,h9,h3,Wy,Xh,g1,g2,Int.toNat_natCast,Nat.sub_zero,List.length_map,h7,h8]
   repeat' ((first | apply ZI | apply ZR | apply ZY)<;>intro hc<;>simp -implicitDefEqProofs only [hc,go_sem,simprocAttr,Za,hg,h2,h9,h3,Wy,Xh,g1,g2,Int.toNat_natCast,Nat.sub_zero,List.length_map,h7,h8])
   all_goals simp_all [Za]
theorem Zsf (t:Tbl) (ht:FitT t) (l:List (List UInt8)) (hl:l.length≤1000000) (g:Nat) (hG:g=177∨g=181) (m:Col→Int) (hm:∀ c,R K (.call g [Zan c] [])=some (I (m c),[])) :
  Wb (nsH t l g) (.fn 281 [.ptr 0 0,.ptr 1 0,.ptr 2 0]) (Wh t l m) l.length:=fun i hi=>by
 have hk:=ZsF t ht l hl g hG m hm i hi
 simp only [nsH,Za] at hk ⊢
 simp -implicitDefEqProofs only [go_sem,simprocAttr,hk]
def QY (t:Tbl) (l:List (List UInt8)) (m:Col→Int):Int:=evE (Wh t l m) 0 l.length
theorem Jw (t:Tbl) (ht:FitT t) (l:List (List UInt8)) (hl:l.length≤1000000) (g:Nat) (hG:g=177∨g=181) (m:Col→Int) (hm:∀ c,R K (.call g [Zan c] [])=some (I (m c),[])) :
  R K (.call 176 [ZX t,.rows (SLs l),.fn g []] [])=some (I (QY t l m),[]):=by
 have hi:=YS (.fn 281 [.ptr 0 0,.ptr 1 0,.ptr 2 0]) (nsH t l g) (Wh t l m) l.length hl rfl (Zsf t ht l hl g hG m hm)
 unfold QY
 simp only [nsH,Za] at hi
 rw [Zpc]
 simp -implicitDefEqProofs only [go_sem,simprocAttr,Tryz.f176,Za,hi,List.length_map]
def Zga (c:Col):Int:=if c.nl=true then 9 else 0
theorem ZuK (c:Col):R K (.call 177 [Zan c] [])=some (I (Zga c),[]):=by
 rw [Zru]
 simp -implicitDefEqProofs only [go_sem,simprocAttr,Tryz.f177,ZO]
 repeat' ((first | apply ZI | apply ZR | apply ZY)<;>intro hc<;>simp -implicitDefEqProofs only [hc,go_sem,simprocAttr,ZO])
 all_goals simp_all [Zga]
theorem Zpz (c:Col):R K (.call 181 [Zan c] [])=some (I 0,[]):=by
 rw [Zql]
 simp -implicitDefEqProofs only [go_sem,simprocAttr,Tryz.f181,ZO]
theorem Xz {l:List Fgn} {j:Nat} {c:Fgn} (h:l[j]? = some c):at? (l.map Zt) (j:Int)=some (Zt c):=Z2 (by simp [h])
theorem Ji {l:List Idx} {j:Nat} {c:Idx} (h:l[j]? = some c):at? (l.map ZT) (j:Int)=some (ZT c):=Z2 (by simp [h])
abbrev tiH (t:Tbl) (i:Nat):Zd:=[.cells (Za t),.cells [I (i:Int)]]
theorem ZhD {i:Nat} (h:i+1≤1000000):ZC .i64 (((i+1:Nat):Int) - 1)=(i:Int):=by rw [ZV (by omega) (by omega)];omega
theorem Znu (t:Tbl) (i:Nat) (f:Fgn) (hi:i+1≤1000000) (hf:t.fgn[i]? = some f):R K (.call 180 [.ptr 0 0,.ptr 1 0] (tiH t (i+1)))=some (.str f.nm,tiH t (i+1)):=by
 have h1:=ZhD hi
 have hg:=Xz hf
 simp only [Zt] at hg
 rw [Zrx]
 simp -implicitDefEqProofs only [go_sem,simprocAttr,Tryz.f180,Za,Zt,h1,hg]
 rfl
theorem ZnZ (t:Tbl) (i:Nat) (f:Idx) (hi:i+1≤1000000) (hf:t.idx[i]? = some f):R K (.call 184 [.ptr 0 0,.ptr 1 0] (tiH t (i+1)))=some (.str f.nm,tiH t (i+1)):=by
 have h1:=ZhD hi
 have hg:=Ji hf
 simp only [ZT] at hg
 rw [ZpC]
 simp -implicitDefEqProofs only [go_sem,simprocAttr,Tryz.f184,Za,ZT,h1,hg]
 rfl
theorem Znr (t:Tbl) (i:Nat) (f:Fgn) (hi:i+1≤1000000) (hf:t.fgn[i]? = some f):Yv nlA (R K) (tiH t (i+1)) [] (.fn 180 [.ptr 0 0,.ptr 1 0])=some (.str f.nm,tiH t (i+1)):=by
 have hk:=Znu t i f hi hf
 simp only [tiH,Za] at hk ⊢
 simp -implicitDefEqProofs only [go_sem,simprocAttr,hk]
theorem Zn7 (t:Tbl) (i:Nat) (f:Idx) (hi:i+1≤1000000) (hf:t.idx[i]? = some f):Yv nlA (R K) (tiH t (i+1)) [] (.fn 184 [.ptr 0 0,.ptr 1 0])=some (.str f.nm,tiH t (i+1)):=by
 have hk:=ZnZ t i f hi hf
 simp only [tiH,Za] at hk ⊢
 simp -implicitDefEqProofs only [go_sem,simprocAttr,hk]
def QD (l:List (List UInt8)) (i:Nat):List UInt8:=(l[i - 1]?).getD []
def Zao (t:Tbl) (i:Nat):Int:=match t.fgn[i]? with
 | some f=>orE (Qh f.nm (QD (t.fgn.map (·.nm)) i) (i==0)) (QY t f.cols fun _=>0)
 | none=>0
theorem Zv2 (t:Tbl) (ht:FitT t) (i:Nat) (f:Fgn) (hf:t.fgn[i]? = some f):R K (.call 171 [.str f.nm,I (i:Int),.fn 180 [.ptr 0 0,.ptr 1 0]] (tiH t i))=some (I (Qh f.nm (QD (t.fgn.map (·.nm)) i) (i==0)),tiH t i):=by
 have hlt:=(List.getElem?_eq_some_iff.1 hf).1
 refine Zat _ _ _ _ _ (ht.fg f (List.mem_of_getElem? hf)).1 rfl fun hi=>?_
 obtain ⟨j,rfl⟩:∃ j,i=j+1:=⟨i - 1,by omega⟩
 obtain ⟨g,hg⟩:=Ze (l:=t.fgn) (i:=j) (by omega)
 have:=ht.fgn
 have e:QD (t.fgn.map (·.nm)) (j+1)=g.nm:=by simp [QD,hg]
 rw [e]
 exact Znr t j g (by omega) hg
theorem ZAr (t:Tbl) (ht:FitT t) (i:Nat) (hi:i < t.fgn.length):R K (.call 179 [I (i:Int),.ptr 0 0] (tbH t))=some (I (Zao t i),tbH t):=by
 obtain ⟨f,hf⟩:=Ze hi
 have hg:=Xz hf
 have hm:=List.mem_of_getElem? hf
 have h1:=Zv2 t ht i f hf
 have h2:=Jw t ht f.cols (ht.fg f hm).2 181 (.inr rfl) (fun _=>0) Zpz
 unfold Zao
 rw [hf]
 simp only
 generalize Qh f.nm (QD (t.fgn.map (·.nm)) i) (i==0)=x at *
 generalize QY t f.cols (fun _=>0)=y at *
 simp only [ZX,Za,Zt,tiH] at h1 h2 hg
 by_cases hx:x=0
 ·subst hx
  rw [Zj9]
  simp -implicitDefEqProofs only [go_sem,simprocAttr,Tryz.f179,Za,Zt,hg,h1,h2,bne]
  rfl
 ·have dx:(x==0)=false:=by simpa using hx
  rw [Zj9]
  simp -implicitDefEqProofs only [go_sem,simprocAttr,Tryz.f179,Za,Zt,hg,h1,h2,bne,dx]
  simp [orE,hx,Za]
def JK (t:Tbl) (i:Nat):Int:=match t.idx[i]? with
 | some f=>orE (Qh f.nm (QD (t.idx.map (·.nm)) i) (i==0)) (if f.cols.length=0 then 3 else if 8 < f.cols.length then 2 else QY t f.cols fun _=>0)
 | none=>0
theorem Zvi (t:Tbl) (ht:FitT t) (i:Nat) (f:Idx) (hf:t.idx[i]? = some f):R K (.call 171 [.str f.nm,I (i:Int),.fn 184 [.ptr 0 0,.ptr 1 0]] (tiH t i))=some (I (Qh f.nm (QD (t.idx.map (·.nm)) i) (i==0)),tiH t i):=by
 have hlt:=(List.getElem?_eq_some_iff.1 hf).1
 refine Zat _ _ _ _ _ (ht.ix f (List.mem_of_getElem? hf)).1 rfl fun hi=>?_
 obtain ⟨j,rfl⟩:∃ j,i=j+1:=⟨i - 1,by omega⟩
 obtain ⟨g,hg⟩:=Ze (l:=t.idx) (i:=j) (by omega)
 have:=ht.idx
 have e:QD (t.idx.map (·.nm)) (j+1)=g.nm:=by simp [QD,hg]
 rw [e]
 exact Zn7 t j g (by omega) hg
theorem Zz1 (t:Tbl) (ht:FitT t) (i:Nat) (hi:i < t.idx.length):R K (.call 183 [I (i:Int),.ptr 0 0] (tbH t))=some (I (JK t i),tbH t):=by
 obtain ⟨f,hf⟩:=Ze hi
 have hg:=Ji hf
 have hm:=List.mem_of_getElem? hf
 have h1:=Zvi t ht i f hf
 have h2:=Jw t ht f.cols (ht.ix f hm).2 181 (.inr rfl) (fun _=>0) Zpz
 unfold JK
 rw [hf]
 simp only
 generalize Qh f.nm (QD (t.idx.map (·.nm)) i) (i==0)=x at *
 generalize QY t f.cols (fun _=>0)=y at *
 simp only [ZX,Za,ZT,tiH] at h1 h2 hg
 by_cases hx:x=0
 ·subst hx
  by_cases a:f.cols.length=0
  ·have d0:((f.cols.length:Int)==0)=true:=by simp [a]
   rw [Zcw]
   simp -implicitDefEqProofs only [go_sem,simprocAttr,Tryz.f183,Za,ZT,hg,h1,h2,bne,List.length_map,d0]
   simp [orE,a,Za]
  ·have d0:((f.cols.length:Int)==0)=false:=by rw [←Bool.not_eq_true,beq_iff_eq];omega
   by_cases b:8 < f.cols.length
   ·have d8:((8:Int) < (f.cols.length:Int))=True:=eq_true (by omega)
    rw [Zcw]
    simp -implicitDefEqProofs only [go_sem,simprocAttr,Tryz.f183,Za,ZT,hg,h1,h2,bne,List.length_map,d0,d8]
    simp [orE,a,b,Za]
   ·have d8:((8:Int) < (f.cols.length:Int))=False:=eq_false (by omega)
    rw [Zcw]
    simp -implicitDefEqProofs only [go_sem,simprocAttr,Tryz.f183,Za,ZT,hg,h1,h2,bne,List.length_map,d0,d8]
    simp [orE,a,b,Za]
 ·have dx:(x==0)=false:=by simpa using hx
  rw [Zcw]
  simp -implicitDefEqProofs only [go_sem,simprocAttr,Tryz.f183,Za,ZT,hg,h1,h2,bne,dx]
  simp [orE,hx,Za]
theorem Zmm (h:Zd) (l:Nat) (w:Bool) (fs:List AV) (e:Nat→Int) (hn:fs.length≤1000000) (hl:h[l]? = some (.rows 1 (fs.map fun f=>[f]) w)) (hu:Z6 h.length (ZP h)=true) (hc:∀ j f,(∀ k,k < j→e k=0)→fs[j]? = some f→Yv nlA (R K) h [] f=some (I (e j),h)) (ks:List It) :
  ∀ (q j:Nat) (i:Int) (Bo:Code),Zf Tryz.f83 0 Bo→i=(j:Int)→fs.length=j+q→(∀ k,k < j→e k=0) →
  RL K (.run 83 h.length (.code Bo::.lp Bo (some ([6,7,8],[])) h.length::.blk 0 h.length::ks) [(6,.own l fs.length),(7,I (fs.length:Int)),(8,I i)] h) =
  if evE e j q=0 then R K (.run 83 h.length ks [] h) else some (I (evE e j q),h)
 | 0,j,i,Bo,hB,hi,hq,_=>by
  subst hi
  have d:¬(j:Int) < (fs.length:Int):=by omega
  unfold Zf at hB
  simp -implicitDefEqProofs only [go_sem,simprocAttr,Tryz.f83,Zb] at hB
  subst hB
  rw [Zc]
  simp -implicitDefEqProofs only [go_sem,simprocAttr,d,evE]
 | q+1,j,i,Bo,hB,hi,hq,hz=>by
  subst hi
  have hB':=hB
  have d:(j:Int) < (fs.length:Int):=by omega
  have d0:((0:Int)≤(j:Int))=True:=eq_true (by omega)
  have h7:ZC .i64 ((j:Int)+1)=((j+1:Nat):Int):=Zs (n:=fs.length) (by omega) (by omega)
  obtain ⟨f,hf⟩:=Ze (l:=fs) (i:=j) (by omega)
  have hx:=hc j f hz hf
  have hj:(fs.map fun f=>[f])[j]? = some [f]:=by simp [hf]
  have hA:=Z2 hj
  by_cases hk:e j=0
  ·have e1:evE e j (q+1)=evE e (j+1) q:=by simp only [evE];rw [if_pos hk]
   have ih:=Zmm h l w fs e hn hl hu hc ks q (j+1) _ Bo hB' rfl (by omega) fun k hk'=>by
    by_cases hkj:k=j
    ·rw [hkj];exact hk
    ·exact hz k (by omega)
   rw [e1]
   rw [hk] at hx
   unfold Zf at hB
   simp -implicitDefEqProofs only [go_sem,simprocAttr,Tryz.f83,Zb] at hB
   subst hB
   rw [Zc]
   simp -implicitDefEqProofs only [go_sem,simprocAttr,d,d0,h7,hl,hj,hA,hx,bne,Int.toNat_natCast,List.length_map]
   rw [ih]
  ·have e1:evE e j (q+1)=e j:=by simp only [evE];rw [if_neg hk]
   have dk:(e j==0)=false:=by simpa using hk
   rw [e1,if_neg hk]
   unfold Zf at hB
   simp -implicitDefEqProofs only [go_sem,simprocAttr,Tryz.f83,Zb] at hB
   subst hB
   rw [Zc]
   simp -implicitDefEqProofs only [go_sem,simprocAttr,d,d0,h7,hl,hj,hA,hx,dk,bne,hu,Int.toNat_natCast,List.length_map]
theorem Zl8 (h:Zd) (l:Nat) (w:Bool) (fs:List AV) (n:Nat) (e:Nat→Int) (hn:fs.length=n) (hb:n≤1000000) (hl:h[l]? = some (.rows 1 (fs.map fun f=>[f]) w)) (hu:Z6 h.length (ZP h)=true) (hc:∀ j f,(∀ k,k < j→e k=0)→fs[j]? = some f→Yv nlA (R K) h [] f=some (I (e j),h)) :
  R K (.call 83 [.own l n] h)=some (I (evE e 0 n),h):=by
 subst hn
 have lk:=fun ks B hB=>Zmm h l w fs e hb hl hu hc ks fs.length 0 0 B hB rfl (by omega) (fun k hk=>absurd hk (by omega))
 rw [ZrO]
 simp -implicitDefEqProofs only [go_sem,simprocAttr,Tryz.f83]
 rw [lk _ _ ?_]
 ·split
  ·rename_i h0
   rw [h0]
   simp -implicitDefEqProofs only [go_sem,simprocAttr,hu]
  ·rfl
 ·rfl
theorem ZGG (t:Tbl) (ht:FitT t):R K (.call 173 [.ptr 0 0] (tbH t))=some (I (QU t),tbH t):=by
 have hi:=Zny t ht
 simp only [ZX,Za] at hi
 rw [ZqC]
 simp -implicitDefEqProofs only [go_sem,simprocAttr,Tryz.f173,Za,hi]
 rfl
def Zho (t:Tbl):Int:=if t.key.length=0 then 3 else QY t t.key Zga
theorem ZJw (t:Tbl) (ht:FitT t):R K (.call 175 [.ptr 0 0] (tbH t))=some (I (Zho t),tbH t):=by
 have hi:=Jw t ht t.key ht.key 177 (.inl rfl) Zga ZuK
 simp only [ZX,Za] at hi
 unfold Zho
 by_cases a:t.key.length=0
 ·have d0:((t.key.length:Int)==0)=true:=by simp [a]
  rw [Zks]
  simp -implicitDefEqProofs only [go_sem,simprocAttr,Tryz.f175,Za,hi,d0,List.length_map]
  simp [a,Za]
 ·have d0:((t.key.length:Int)==0)=false:=by rw [←Bool.not_eq_true,beq_iff_eq];omega
  rw [Zks]
  simp -implicitDefEqProofs only [go_sem,simprocAttr,Tryz.f175,Za,hi,d0,List.length_map]
  simp [a,Za]
theorem ZAv (t:Tbl) (ht:FitT t):Wb (tbH t) (.fn 179 [.ptr 0 0]) (Zao t) t.fgn.length:=fun i hi=>by
 have hk:=ZAr t ht i hi
 simp only [tbH,Za] at hk ⊢
 simp -implicitDefEqProofs only [go_sem,simprocAttr,hk]
theorem ZBE (t:Tbl) (ht:FitT t):Wb (tbH t) (.fn 183 [.ptr 0 0]) (JK t) t.idx.length:=fun i hi=>by
 have hk:=Zz1 t ht i hi
 simp only [tbH,Za] at hk ⊢
 simp -implicitDefEqProofs only [go_sem,simprocAttr,hk]
theorem ZHi (t:Tbl) (ht:FitT t):R K (.call 178 [.ptr 0 0] (tbH t))=some (I (evE (Zao t) 0 t.fgn.length),tbH t):=by
 have hi:=YS _ (tbH t) (Zao t) t.fgn.length ht.fgn (ZeY t) (ZAv t ht)
 simp only [tbH,Za] at hi
 rw [ZoQ]
 simp -implicitDefEqProofs only [go_sem,simprocAttr,Tryz.f178,Za,hi,List.length_map]
 rfl
theorem ZE9 (t:Tbl) (ht:FitT t):R K (.call 182 [.ptr 0 0] (tbH t))=some (I (evE (JK t) 0 t.idx.length),tbH t):=by
 have hi:=YS _ (tbH t) (JK t) t.idx.length ht.idx (ZeY t) (ZBE t ht)
 simp only [tbH,Za] at hi
 rw [Zqz]
 simp -implicitDefEqProofs only [go_sem,simprocAttr,Tryz.f182,Za,hi,List.length_map]
 rfl
abbrev foH (t:Tbl) (w:Bool):Zd:=[.rows 1 [[.fn 173 [.ptr 1 0]],[.fn 175 [.ptr 1 0]],[.fn 178 [.ptr 1 0]],[.fn 182 [.ptr 1 0]]] w,.cells (Za t)]
def Q0 (t:Tbl):Nat→Int
 | 0=>QU t
 | 1=>Zho t
 | 2=>evE (Zao t) 0 t.fgn.length
 | 3=>evE (JK t) 0 t.idx.length
 | _=>0
theorem Zr1 (t:Tbl) (ht:FitT t) (w:Bool):R K (.call 83 [.own 0 4] (foH t w))=some (I (evE (Q0 t) 0 4),foH t w):=by
 refine Zl8 (foH t w) 0 w [.fn 173 [.ptr 1 0],.fn 175 [.ptr 1 0],.fn 178 [.ptr 1 0],.fn 182 [.ptr 1 0]] 4 (Q0 t) rfl (by omega) rfl rfl ?_
 intro j f _ hf
 have h0:=ZGG t ht
 have h1:=ZJw t ht
 have h2:=ZHi t ht
 have h3:=ZE9 t ht
 simp only [tbH,Za] at h0 h1 h2 h3
 match j,hf with
 | 0,hf =>
  simp only [List.getElem?_cons_zero,Option.some.injEq] at hf
  subst hf
  simp only [foH,Za,Q0]
  simp -implicitDefEqProofs only [go_sem,simprocAttr,h0]
 | 1,hf =>
  simp only [List.getElem?_cons_succ,List.getElem?_cons_zero,Option.some.injEq] at hf
  subst hf
  simp only [foH,Za,Q0]
  simp -implicitDefEqProofs only [go_sem,simprocAttr,h1]
 | 2,hf =>
  simp only [List.getElem?_cons_succ,List.getElem?_cons_zero,Option.some.injEq] at hf
  subst hf
  simp only [foH,Za,Q0]
  simp -implicitDefEqProofs only [go_sem,simprocAttr,h2]
 | 3,hf =>
  simp only [List.getElem?_cons_succ,List.getElem?_cons_zero,Option.some.injEq] at hf
  subst hf
  simp only [foH,Za,Q0]
  simp -implicitDefEqProofs only [go_sem,simprocAttr,h3]
 | j+4,hf=>simp at hf
abbrev siH (x:List Tbl) (i:Nat):Zd:=[.cells [.rows (x.map Za)],.cells [I (i:Int)]]
theorem Znh (x:List Tbl) (i:Nat) (t:Tbl) (hi:i+1≤1000000) (hf:x[i]? = some t):R K (.call 172 [.ptr 0 0,.ptr 1 0] (siH x (i+1)))=some (.str t.nm,siH x (i+1)):=by
 have h1:=ZhD hi
 have hg:=ZG hf
 simp only [Za] at hg
 rw [ZoS]
 simp -implicitDefEqProofs only [go_sem,simprocAttr,Tryz.f172,h1,hg]
theorem Zoi (x:List Tbl) (i:Nat) (t:Tbl) (hi:i+1≤1000000) (hf:x[i]? = some t):Yv nlA (R K) (siH x (i+1)) [] (.fn 172 [.ptr 0 0,.ptr 1 0])=some (.str t.nm,siH x (i+1)):=by
 have hk:=Znh x i t hi hf
 simp only [siH] at hk ⊢
 simp -implicitDefEqProofs only [go_sem,simprocAttr,hk]
theorem Zvo (x:List Tbl) (hx:x.length≤1000000) (i:Nat) (t:Tbl) (ht:FitT t) (hf:x[i]? = some t):R K (.call 171 [.str t.nm,I (i:Int),.fn 172 [.ptr 0 0,.ptr 1 0]] (siH x i))=some (I (Qh t.nm (QD (x.map (·.nm)) i) (i==0)),siH x i):=by
 have hlt:=(List.getElem?_eq_some_iff.1 hf).1
 refine Zat _ _ _ _ _ ht.nm rfl fun hi=>?_
 obtain ⟨j,rfl⟩:∃ j,i=j+1:=⟨i - 1,by omega⟩
 obtain ⟨g,hg⟩:=Ze (l:=x) (i:=j) (by omega)
 have e:QD (x.map (·.nm)) (j+1)=g.nm:=by simp [QD,hg]
 rw [e]
 exact Zoi x j g (by omega) hg
def ZiR (t:Tbl):Bool:=decide (60 < t.cols.length)||(decide (8 < t.key.length)||(decide (20 < t.fgn.length)||decide (20 < t.idx.length)))
def YW (x:List Tbl) (i:Nat):Int:=match x[i]? with
 | some t=>orE (Qh t.nm (QD (x.map (·.nm)) i) (i==0)) (if ZiR t=true then 2 else evE (Q0 t) 0 4)
 | none=>0
theorem Zs7 (x:List Tbl) (hx:x.length≤1000000) (i:Nat) (t:Tbl) (ht:FitT t) (hf:x[i]? = some t):R K (.call 86 [WI x,I (i:Int)] [])=some (I (YW x i),[]):=by
 have h1:=Zvo x hx i t ht hf
 have h2:=Zr1 t ht false
 have hg:=ZG hf
 unfold YW
 rw [hf]
 simp only
 generalize Qh t.nm (QD (x.map (·.nm)) i) (i==0)=y at *
 generalize evE (Q0 t) 0 4=z at *
 simp only [Za,siH,foH] at h1 h2 hg
 by_cases hy:y=0
 ·subst hy
  have b1:decide ((60:Int) < (t.cols.length:Int))=decide (60 < t.cols.length):=by congr 1;simp only [eq_iff_iff];omega
  have b2:decide ((8:Int) < (t.key.length:Int))=decide (8 < t.key.length):=by congr 1;simp only [eq_iff_iff];omega
  have b3:decide ((20:Int) < (t.fgn.length:Int))=decide (20 < t.fgn.length):=by congr 1;simp only [eq_iff_iff];omega
  have b4:decide ((20:Int) < (t.idx.length:Int))=decide (20 < t.idx.length):=by congr 1;simp only [eq_iff_iff];omega
  unfold ZiR
  generalize decide (60 < t.cols.length)=u1 at *
  generalize decide (8 < t.key.length)=u2 at *
  generalize decide (20 < t.fgn.length)=u3 at *
  generalize decide (20 < t.idx.length)=u4 at *
  rw [Zmz]
  simp -implicitDefEqProofs only [go_sem,simprocAttr,Tryz.f86,Za,hg,h1,bne,List.length_map,b1,b2,b3,b4,h2,ne_eq,not_false_eq_true,false_or,or_true,reduceCtorEq]
  repeat' ((first | apply ZI | apply ZR | apply ZY)<;>intro hc<;>simp -implicitDefEqProofs only [hc,go_sem,simprocAttr,Za,hg,h1,bne,List.length_map,b1,b2,b3,b4,h2,ne_eq,not_false_eq_true,false_or,or_true,reduceCtorEq])
  ·simp_all [orE]
  ·simp_all [orE]
  ·simp_all [orE]
  ·simp_all [orE]
  ·simp_all [orE]
 ·have dy:(y==0)=false:=by simpa using hy
  rw [Zmz]
  simp -implicitDefEqProofs only [go_sem,simprocAttr,Tryz.f86,Za,hg,h1,bne,dy]
  all_goals simp [orE,hy]
structure FitX (x:List Tbl):Prop where
 len:x.length≤1000000
 tbl:∀ t∈x,FitT t
abbrev xH (x:List Tbl):Zd:=[.cells [.rows (x.map Za)]]
theorem ZGL (x:List Tbl) (hx:FitX x) (i:Nat) (hi:i < x.length):R K (.call 85 [I (i:Int),.ptr 0 0] (xH x))=some (I (YW x i),xH x):=by
 obtain ⟨t,ht⟩:=Ze hi
 have h1:=Zs7 x hx.len i t (hx.tbl t (List.mem_of_getElem? ht)) ht
 rw [ZrG]
 simp -implicitDefEqProofs only [go_sem,simprocAttr,Tryz.f85,h1]
theorem ZHP (x:List Tbl) (hx:FitX x):Wb (xH x) (.fn 85 [.ptr 0 0]) (YW x) x.length:=fun i hi=>by
 have hk:=ZGL x hx i hi
 simp only [xH] at hk ⊢
 simp -implicitDefEqProofs only [go_sem,simprocAttr,hk]
theorem ZHs (x:List Tbl) (hx:FitX x):R K (.call 84 [.ptr 0 0] (xH x))=some (I (evE (YW x) 0 x.length),xH x):=by
 have hi:=YS _ (xH x) (YW x) x.length hx.len rfl (ZHP x hx)
 simp only [xH] at hi
 rw [Zte]
 simp -implicitDefEqProofs only [go_sem,simprocAttr,Tryz.f84,hi,List.length_map]
def Zr (t:Tbl) (l:List (List UInt8)):Prop:=∀ n∈l,¬ixN n (t.cols.map (·.nm)) 0 < 0
def Zgm (t:Tbl) (n:List UInt8):Option Col:=t.cols[(ixN n (t.cols.map (·.nm)) 0).toNat]?
def kdE (t u:Tbl) (l k:List (List UInt8)) (i:Nat):Int:=match l[i]?,k[i]? with
 | some a,some b=>(match Zgm t a,Zgm u b with
  | some c,some d=>if c.kd=d.kd then 0 else 8
  | _,_=>0)
 | _,_=>0
abbrev frH (t:Tbl) (f:Fgn) (u:Tbl):Zd:=[.cells (Za t),.cells (Zt f),.cells (Za u)]
theorem ZIK (t u:Tbl) (ht:FitT t) (hu:FitT u) (f:Fgn) (i:Nat) (hi:i < f.cols.length) (hk:i < u.key.length) (h1:Zr t f.cols) (h2:Zr u u.key) :
  R K (.call 185 [I (i:Int),.ptr 0 0,.ptr 1 0,.ptr 2 0] (frH t f u))=some (I (kdE t u f.cols u.key i),frH t f u):=by
 obtain ⟨a,ha⟩:=Ze hi
 obtain ⟨b,hb⟩:=Ze hk
 obtain ⟨p,c,p1,p2⟩:=Jb (h1 a (List.mem_of_getElem? ha))
 obtain ⟨q,d,q1,q2⟩:=Jb (h2 b (List.mem_of_getElem? hb))
 have g1:=Wg ha
 have g2:=Wg hb
 have g3:=Q5 t a ht.cols
 have g4:=Q5 u b hu.cols
 rw [p1] at g3
 rw [q1] at g4
 have g5:=YR p2
 have g6:=YR q2
 have e1:Zgm t a=some c:=by unfold Zgm;rw [p1,Int.toNat_natCast,p2]
 have e2:Zgm u b=some d:=by unfold Zgm;rw [q1,Int.toNat_natCast,q2]
 unfold kdE
 rw [ha,hb]
 simp only
 rw [e1,e2]
 simp only
 simp only [ZX,Za,ZO] at g3 g4 g5 g6
 by_cases hd:c.kd=d.kd
 ·have dk:(c.kd==d.kd)=true:=by simpa using hd
  rw [ZjM]
  simp -implicitDefEqProofs only [go_sem,simprocAttr,Tryz.f185,Za,Zt,ZO,g1,g2,g3,g4,g5,g6,bne,dk]
  simp [hd,Za,Zt]
 ·have dk:(c.kd==d.kd)=false:=by simpa using hd
  rw [ZjM]
  simp -implicitDefEqProofs only [go_sem,simprocAttr,Tryz.f185,Za,Zt,ZO,g1,g2,g3,g4,g5,g6,bne,dk]
  simp [hd,Za,Zt]
theorem ZGl (t u:Tbl) (ht:FitT t) (hu:FitT u) (f:Fgn) (hl:f.cols.length=u.key.length) (h1:Zr t f.cols) (h2:Zr u u.key) :
  Wb (frH t f u) (.fn 185 [.ptr 0 0,.ptr 1 0,.ptr 2 0]) (kdE t u f.cols u.key) f.cols.length:=fun i hi=>by
 have hk:=ZIK t u ht hu f i hi (by omega) h1 h2
 simp only [frH,Za,Zt] at hk ⊢
 simp -implicitDefEqProofs only [go_sem,simprocAttr,hk]
theorem Zcx {x:List Tbl} {n:List UInt8} (h:¬ixN n (x.map (·.nm)) 0 < 0):∃ (a:Nat) (c:Tbl),ixN n (x.map (·.nm)) 0=(a:Int)∧x[a]? = some c:=by
 have h1:=Zhq n (x.map (·.nm)) 0
 rw [List.length_map] at h1
 obtain ⟨a,ha⟩:=Int.eq_ofNat_of_zero_le (Int.not_lt.1 h)
 exact ⟨a,x[a]'(by omega),ha,List.getElem?_eq_getElem _⟩
def Zok (x:List Tbl) (t:Tbl) (f:Fgn):Int:=if ixN f.tb (x.map (·.nm)) 0 < 0 then 5 else match x[(ixN f.tb (x.map (·.nm)) 0).toNat]? with
 | some u=>if f.cols.length=u.key.length then evE (kdE t u f.cols u.key) 0 f.cols.length else 3
 | none=>0
theorem ZnX (x:List Tbl) (hx:FitX x) (t:Tbl) (ht:FitT t) (f:Fgn) (hf:f.cols.length≤1000000) (hN:Zr t f.cols) (hK:∀ u∈x,Zr u u.key) :
  R K (.call 90 [WI x,ZX t,.agg (Zt f)] [])=some (I (Zok x t f),[]):=by
 have h1:=Zbn x f.tb hx.len
 unfold Zok
 by_cases h0:ixN f.tb (x.map (·.nm)) 0 < 0
 ·rw [if_pos h0]
  rw [ZhI]
  simp -implicitDefEqProofs only [go_sem,simprocAttr,Tryz.f90,Zt,Za,h1,h0]
 ·obtain ⟨a,u,h5,h6⟩:=Zcx h0
  have h7:=ZG h6
  have hm:=List.mem_of_getElem? h6
  have h9:((a:Int) < 0)=False:=eq_false (by omega)
  rw [if_neg h0,h5,Int.toNat_natCast,h6]
  rw [h5] at h1
  simp only
  simp only [Za] at h7
  by_cases hl:f.cols.length=u.key.length
  ·have hi:=YS _ (frH t f u) (kdE t u f.cols u.key) f.cols.length hf rfl (ZGl t u ht (hx.tbl u hm) f hl hN (hK u hm))
   have dl:((f.cols.length:Int)==(u.key.length:Int))=true:=by rw [hl,beq_iff_eq]
   simp only [frH,Za,Zt] at hi
   rw [if_pos hl]
   rw [ZhI]
   simp -implicitDefEqProofs only [go_sem,simprocAttr,Tryz.f90,Zt,Za,h1,h9,h7,List.length_map,bne,dl,hi]
  ·have dl:((f.cols.length:Int)==(u.key.length:Int))=false:=by rw [←Bool.not_eq_true,beq_iff_eq];omega
   rw [if_neg hl]
   rw [ZhI]
   simp -implicitDefEqProofs only [go_sem,simprocAttr,Tryz.f90,Zt,Za,h1,h9,h7,List.length_map,bne,dl]
theorem Xp {e:Nat→Int}:∀ (m j:Nat),evE e j m=0→∀ i,j≤i→i < j+m→e i=0
 | 0,j,_,i,h1,h2=>by omega
 | m+1,j,h,i,h1,h2=>by
  simp only [evE] at h
  by_cases h0:e j=0
  ·rw [if_pos h0] at h
   by_cases hi:i=j
   ·rw [hi];exact h0
   ·exact Xp m (j+1) h i (by omega) (by omega)
  ·rw [if_neg h0] at h
   exact absurd h h0
theorem ZaU {a b:Int} (h:orE a b=0):a=0∧b=0:=by
 unfold orE at h
 split at h
 ·rename_i h0;exact ⟨h0,h⟩
 ·rename_i h0;exact absurd h h0
theorem Zft {t:Tbl} {l:List (List UInt8)} {m:Col→Int} (h:QY t l m=0):Zr t l:=by
 intro n hn hlt
 obtain ⟨i,hi,he⟩:=List.mem_iff_getElem.1 hn
 have h1:=Xp l.length 0 h i (by omega) (by omega)
 unfold Wh at h1
 rw [List.getElem?_eq_getElem hi,he] at h1
 simp only at h1
 rw [if_pos hlt] at h1
 simp at h1
structure TabOk (t:Tbl):Prop where
 key:Zr t t.key
 fg:∀ f∈t.fgn,Zr t f.cols
theorem Zgv {x:List Tbl} {i:Nat} {t:Tbl} (ht:x[i]? = some t) (h:YW x i=0):Qh t.nm (QD (x.map (·.nm)) i) (i==0)=0∧TabOk t:=by
 unfold YW at h
 rw [ht] at h
 simp only at h
 obtain ⟨h1,h2⟩:=ZaU h
 refine ⟨h1,?_⟩
 split at h2
 ·simp at h2
 have h3:=Xp 4 0 h2
 have k1:=h3 1 (by omega) (by omega)
 have k2:=h3 2 (by omega) (by omega)
 simp only [Q0] at k1 k2
 constructor
 ·unfold Zho at k1
  split at k1
  ·simp at k1
  ·exact Zft k1
 ·intro f hf
  obtain ⟨j,hj,rfl⟩:=List.mem_iff_getElem.1 hf
  have:=Xp _ 0 k2 j (by omega) (by omega)
  unfold Zao at this
  rw [List.getElem?_eq_getElem hj] at this
  exact Zft (ZaU this).2
def nmA (l:List (List UInt8)) (i:Nat):List UInt8:=(l[i]?).getD []
theorem ZfV:∀ a:List UInt8,Op.bytesLess a a=false
 | []=>rfl
 | c::r=>by simp [Op.bytesLess,ZfV r]
theorem Ztg {s b:List UInt8} {first:Bool} (h:Qh s b first=0):first=true∨Op.bytesLess b s=true:=by
 unfold Qh at h
 split at h
 ·simp at h
 split at h
 ·simp at h
 rename_i h2
 cases first with
 | true=>exact .inl rfl
 | false =>
  refine .inr ?_
  have h3:¬(Op.bytesLess s b=true∨s=b):=fun e=>h2 ⟨rfl,e⟩
  have h4:s≠b:=fun e=>h3 (.inr e)
  have h5:Op.bytesLess s b=false:=by
   cases e:Op.bytesLess s b with
   | false=>rfl
   | true=>exact absurd (.inl e) h3
  rw [J0 b s (Ne.symm h4),h5]
  rfl
theorem ZbR {l:List (List UInt8)} (h:∀ i,i < l.length→Qh (nmA l i) (QD l i) (i==0)=0) (i:Nat):∀ j,i < j→j < l.length→Op.bytesLess (nmA l i) (nmA l j)=true
 | 0,h1,_=>by omega
 | j+1,h1,h2=>by
  have h3:Op.bytesLess (nmA l j) (nmA l (j+1))=true:=(Ztg (h (j+1) h2)).resolve_left (by simp)
  by_cases e:i=j
  ·rw [e];exact h3
  ·exact Zb4 _ _ _ (ZbR h i j (by omega) (by omega)) h3
theorem ZoA {l:List (List UInt8)} (h:∀ i,i < l.length→Qh (nmA l i) (QD l i) (i==0)=0) {i j:Nat} (hi:i < l.length) (hj:j < l.length) (e:nmA l i=nmA l j):i=j:=by
 rcases Nat.lt_trichotomy i j with h1 | h1 | h1
 ·have:=ZbR h i j h1 hj
  rw [e,ZfV] at this;simp at this
 ·exact h1
 ·have:=ZbR h j i h1 hi
  rw [e,ZfV] at this;simp at this
def fkE (x:List Tbl) (t:Tbl) (k:Nat):Int:=match t.fgn[k]? with
 | some f=>Zok x t f
 | none=>0
def Qq (x:List Tbl) (i:Nat):Int:=match x[i]? with
 | some t=>evE (fkE x t) 0 t.fgn.length
 | none=>0
def Zgk (x:List Tbl):Nat→Int
 | 0=>evE (YW x) 0 x.length
 | 1=>evE (Qq x) 0 x.length
 | _=>0
def WL (x:List Tbl):Int:=if 60 < x.length then 2 else evE (Zgk x) 0 2
structure RightX (x:List Tbl):Prop where
 inj:∀ i j,i < x.length→j < x.length→nmA (x.map (·.nm)) i=nmA (x.map (·.nm)) j→i=j
 ok:∀ t∈x,TabOk t
 leads:∀ t∈x,∀ f∈t.fgn,¬ixN f.tb (x.map (·.nm)) 0 < 0
theorem ZdM {x:List Tbl} (h:evE (YW x) 0 x.length=0):(∀ i,i < x.length→Qh (nmA (x.map (·.nm)) i) (QD (x.map (·.nm)) i) (i==0)=0)∧∀ t∈x,TabOk t:=by
 have h1:=Xp _ 0 h
 constructor
 ·intro i hi
  have:=(Zgv (List.getElem?_eq_getElem hi) (h1 i (by omega) (by omega))).1
  have e:nmA (x.map (·.nm)) i=(x[i]).nm:=by simp [nmA,hi]
  rw [e]
  exact this
 ·intro t ht
  obtain ⟨i,hi,rfl⟩:=List.mem_iff_getElem.1 ht
  exact (Zgv (List.getElem?_eq_getElem hi) (h1 i (by omega) (by omega))).2
theorem Zdi {x:List Tbl} (h:WL x=0):RightX x:=by
 unfold WL at h
 split at h
 ·simp at h
 have h1:=Xp 2 0 h
 have k0:=h1 0 (by omega) (by omega)
 have k1:=h1 1 (by omega) (by omega)
 simp only [Zgk] at k0 k1
 obtain ⟨a1,a2⟩:=ZdM k0
 refine ⟨fun i j hi hj e=>ZoA (by simpa using a1) (by simpa using hi) (by simpa using hj) e,a2,?_⟩
 intro t ht f hf hlt
 obtain ⟨i,hi,rfl⟩:=List.mem_iff_getElem.1 ht
 obtain ⟨k,hk,rfl⟩:=List.mem_iff_getElem.1 hf
 have b1:=Xp _ 0 k1 i (by omega) (by omega)
 unfold Qq at b1
 rw [List.getElem?_eq_getElem hi] at b1
 have b2:=Xp _ 0 b1 k (by omega) (by omega)
 unfold fkE at b2
 rw [List.getElem?_eq_getElem hk] at b2
 simp only [Zok] at b2
 rw [if_pos hlt] at b2
 simp at b2
abbrev xtH (x:List Tbl) (t:Tbl):Zd:=[.cells [.rows (x.map Za)],.cells (Za t)]
theorem ZFp (x:List Tbl) (hx:FitX x) (t:Tbl) (ht:FitT t) (hO:∀ f∈t.fgn,Zr t f.cols) (hK:∀ u∈x,Zr u u.key) (i:Nat) (hi:i < t.fgn.length) :
  R K (.call 89 [I (i:Int),.ptr 0 0,.ptr 1 0] (xtH x t))=some (I (fkE x t i),xtH x t):=by
 obtain ⟨f,hf⟩:=Ze hi
 have hg:=Xz hf
 have hm:=List.mem_of_getElem? hf
 have h1:=ZnX x hx t ht f (ht.fg f hm).2 (hO f hm) hK
 unfold fkE
 rw [hf]
 simp only
 simp only [ZX,Za,Zt] at hg h1
 rw [Zsk]
 simp -implicitDefEqProofs only [go_sem,simprocAttr,Tryz.f89,Za,Zt,hg,h1]
 rfl
theorem ZIU (x:List Tbl) (hx:FitX x) (t:Tbl) (ht:FitT t) (hO:∀ f∈t.fgn,Zr t f.cols) (hK:∀ u∈x,Zr u u.key):Wb (xtH x t) (.fn 89 [.ptr 0 0,.ptr 1 0]) (fkE x t) t.fgn.length:=fun i hi=>by
 have hk:=ZFp x hx t ht hO hK i hi
 simp only [xtH,Za] at hk ⊢
 simp -implicitDefEqProofs only [go_sem,simprocAttr,hk]
theorem ZGC (x:List Tbl) (hx:FitX x) (hO:∀ t∈x,TabOk t) (i:Nat) (hi:i < x.length) :
  R K (.call 88 [I (i:Int),.ptr 0 0] (xH x))=some (I (Qq x i),xH x):=by
 obtain ⟨t,ht⟩:=Ze hi
 have hm:=List.mem_of_getElem? ht
 have hg:=ZG ht
 have h1:=YS _ (xtH x t) (fkE x t) t.fgn.length (hx.tbl t hm).fgn rfl (ZIU x hx t (hx.tbl t hm) (hO t hm).fg fun u hu=>(hO u hu).key)
 unfold Qq
 rw [ht]
 simp only
 simp only [xtH,Za] at h1 hg
 rw [Ztp]
 simp -implicitDefEqProofs only [go_sem,simprocAttr,Tryz.f88,Za,hg,h1,List.length_map]
theorem ZIB (x:List Tbl) (hx:FitX x) (hO:∀ t∈x,TabOk t):Wb (xH x) (.fn 88 [.ptr 0 0]) (Qq x) x.length:=fun i hi=>by
 have hk:=ZGC x hx hO i hi
 simp only [xH] at hk ⊢
 simp -implicitDefEqProofs only [go_sem,simprocAttr,hk]
theorem ZHm (x:List Tbl) (hx:FitX x) (hO:∀ t∈x,TabOk t):R K (.call 87 [.ptr 0 0] (xH x))=some (I (evE (Qq x) 0 x.length),xH x):=by
 have hi:=YS _ (xH x) (Qq x) x.length hx.len rfl (ZIB x hx hO)
 simp only [xH] at hi
 rw [Ztc]
 simp -implicitDefEqProofs only [go_sem,simprocAttr,Tryz.f87,hi,List.length_map]
abbrev csH (x:List Tbl) (w:Bool):Zd:=[.rows 1 [[.fn 84 [.ptr 1 0]],[.fn 87 [.ptr 1 0]]] w,.cells [.rows (x.map Za)]]
theorem ZCd (x:List Tbl) (hx:FitX x) (w:Bool):R K (.call 83 [.own 0 2] (csH x w))=some (I (evE (Zgk x) 0 2),csH x w):=by
 refine Zl8 (csH x w) 0 w [.fn 84 [.ptr 1 0],.fn 87 [.ptr 1 0]] 2 (Zgk x) rfl (by omega) rfl rfl ?_
 intro j f hz hf
 have h0:=ZHs x hx
 simp only [xH] at h0
 match j,hf with
 | 0,hf =>
  simp only [List.getElem?_cons_zero,Option.some.injEq] at hf
  subst hf
  simp only [csH,Zgk]
  simp -implicitDefEqProofs only [go_sem,simprocAttr,h0]
 | 1,hf =>
  simp only [List.getElem?_cons_succ,List.getElem?_cons_zero,Option.some.injEq] at hf
  subst hf
  have hz0:=hz 0 (by omega)
  simp only [Zgk] at hz0
  have h1:=ZHm x hx (ZdM hz0).2
  simp only [xH] at h1
  simp only [csH,Zgk]
  simp -implicitDefEqProofs only [go_sem,simprocAttr,h1]
 | j+2,hf=>simp at hf
theorem W3 (x:List Tbl) (hx:FitX x):R K (.call 40 [WI x] [])=some (I (WL x),[]):=by
 have h2:=ZCd x hx false
 have h0:=hx.len
 unfold WL
 generalize evE (Zgk x) 0 2=z at *
 simp only [csH] at h2
 by_cases b:60 < x.length
 ·have d:((60:Int) < (x.length:Int))=True:=eq_true (by omega)
  rw [if_pos b]
  rw [Zna]
  simp -implicitDefEqProofs only [go_sem,simprocAttr,Tryz.f40,List.length_map,d]
 ·have d:((60:Int) < (x.length:Int))=False:=eq_false (by omega)
  rw [if_neg b]
  rw [Zna]
  simp -implicitDefEqProofs only [go_sem,simprocAttr,Tryz.f40,List.length_map,d,h2,ne_eq,not_false_eq_true,false_or,or_true,reduceCtorEq]
def nmX (x:List Tbl) (i:Nat):List UInt8:=nmA (x.map (·.nm)) i
def toN (x:List Tbl) (f:Fgn):Nat:=(ixN f.tb (x.map (·.nm)) 0).toNat
def toL (x:List Tbl) (i:Nat):List Nat:=match x[i]? with
 | some t=>t.fgn.map (toN x)
 | none=>[]
def Zd1 (x:List Tbl):Mx:=fun i j=>(toL x i).contains j
def YL (x:List Tbl):Mx:=Ze8 (Zd1 x) x.length
theorem Zqn {x:List Tbl} {i:Nat} {t:Tbl} (h:x[i]? = some t):toL x i=t.fgn.map (toN x):=by
 unfold toL
 rw [h]
theorem ZbT {x:List Tbl} {i:Nat} {t:Tbl} (h:x[i]? = some t):nmX x i=t.nm:=by simp [nmX,nmA,h]
theorem Zhj {x:List Tbl} (h:RightX x) {t:Tbl} (ht:t∈x) {f:Fgn} (hf:f∈t.fgn):toN x f < x.length∧nmX x (toN x f)=f.tb∧ixN f.tb (x.map (·.nm)) 0=(toN x f:Int):=by
 have h1:=h.leads t ht f hf
 have h2:=Zhq f.tb (x.map (·.nm)) 0
 rw [List.length_map] at h2
 have h3:ixN f.tb (x.map (·.nm)) 0=(toN x f:Int):=by unfold toN;omega
 have h4:=Zlv f.tb (x.map (·.nm)) 0 (toN x f) h3
 refine ⟨by omega,?_,h3⟩
 unfold nmX nmA
 rw [Nat.sub_zero] at h4
 rw [h4.2]
 rfl
theorem Zu3 {x:List Tbl} (h:RightX x) {i j:Nat} (hj:j∈toL x i):j < x.length:=by
 unfold toL at hj
 cases e:x[i]? with
 | none=>rw [e] at hj;simp at hj
 | some t =>
  rw [e] at hj
  obtain ⟨f,hf,rfl⟩:=List.mem_map.1 hj
  exact (Zhj h (List.mem_of_getElem? e) hf).1
def W6 (p:Nat→Bool):Nat→Nat→Option Nat
 | _,0=>none
 | j,m+1=>if p j=true then some j else W6 p (j+1) m
theorem ZfT {p:Nat→Bool} {i:Nat}:∀ m j,W6 p j m=some i→j≤i∧i < j+m∧p i=true
 | 0,j,h=>by simp [W6] at h
 | m+1,j,h=>by
  unfold W6 at h
  split at h
  ·rename_i hp
   obtain rfl:=Option.some.inj h
   exact ⟨Nat.le_refl _,by omega,hp⟩
  ·have:=ZfT m (j+1) h
   exact ⟨by omega,by omega,this.2.2⟩
theorem ZeL {p:Nat→Bool}:∀ m j,W6 p j m=none→∀ i,j≤i→i < j+m→p i=false
 | 0,j,_,i,h1,h2=>by omega
 | m+1,j,h,i,h1,h2=>by
  unfold W6 at h
  split at h
  ·simp at h
  ·rename_i hp
   by_cases e:i=j
   ·rw [e];simpa using hp
   ·exact ZeL m (j+1) h i (by omega) (by omega)
def Qp (x:List Tbl) (o:List Nat) (i:Nat):Bool:=!o.contains i&&!Zcq (YL x) (toL x i) (fun j=>o.contains j) i
def Qu (x:List Tbl):Nat→List Nat→List Nat
 | 0,o=>o
 | m+1,o=>match W6 (Qp x o) 0 x.length with
  | some i=>Qu x m (o++[i])
  | none=>o
theorem ZhA {x:List Tbl} (h:RightX x) (o:List Nat) (ho:o.length < x.length):∃ i,W6 (Qp x o) 0 x.length=some i∧i < x.length∧Qp x o i=true:=by
 cases e:W6 (Qp x o) 0 x.length with
 | some i =>
  have:=ZfT _ 0 e
  exact ⟨i,rfl,by omega,this.2.2⟩
 | none =>
  obtain ⟨i,hi,hs⟩:=ZsM o x.length ho
  obtain ⟨j,hj,h1,h2⟩:=Zg2 x.length (YL x) (toL x) (fun j=>o.contains j) (Zix _ _) (fun i hi j hj=>⟨Zu3 h hj,Zkg (by simpa [Zd1] using hj) _⟩) _ i hi hs (Nat.le_refl _)
  have h3:=ZeL _ 0 e j (by omega) (by omega)
  simp only [Qp,h1,h2] at h3
  simp at h3
def ZbB (p:Nat→Bool):Nat→Nat→Bool
 | _,0=>false
 | j,m+1=>p j||ZbB p (j+1) m
def Qo (x:List Tbl) (i j:Nat):Bool:=!(i==j)&&(YL x i j&&YL x j i)
def JM (x:List Tbl):Nat→Nat→List Nat
 | _,0=>[]
 | i,m+1=>(if ZbB (Qo x i) 0 x.length=true then [i] else [])++JM x (i+1) m
theorem ZfX {x:List Tbl} (h:RightX x) {o:List Nat} (ho:∀ j∈o,j < x.length) {i:Nat} (hi:i < x.length):(o.map (nmX x)).contains (nmX x i)=o.contains i:=by
 rw [Bool.eq_iff_iff,List.contains_iff_mem,List.contains_iff_mem,List.mem_map]
 constructor
 ·rintro ⟨j,hj,e⟩
  rw [←h.inj j i (ho j hj) hi e]
  exact hj
 ·exact fun h=>⟨i,h,rfl⟩
abbrev ZhZ (f:Fgn):AV:=.agg (Zt f)
def ixP (p:Fgn→Bool):List Fgn→Nat→Int
 | [],_=>-1
 | c::r,i=>if p c=true then (i:Int) else ixP p r (i+1)
theorem Zis (p:Fgn→Bool):∀ (l:List Fgn) (i:Nat),decide (0≤ixP p l i)=l.any p
 | [],i=>by simp [ixP]
 | c::r,i=>by
  unfold ixP
  rw [List.any_cons]
  by_cases h:p c=true
  ·rw [if_pos h,h,Bool.true_or]
   simp
  ·rw [if_neg h,Bool.eq_false_iff.2 h,Bool.false_or]
   exact Zis p r (i+1)
theorem Zmh (f:AV) (h:Zd) (p:Fgn→Bool) (hu:Z6 h.length (ZP h)=true) (l:List Fgn) (hl:l.length≤1000000) (hc:∀ c∈l,Yv nlA (R K) h [ZhZ c] f=some (.bool (p c),h)) (ks:List It) :
  ∀ (q j:Nat) (i:Int) (Bo:Code),Zf Tryz.f107 0 Bo→i=(j:Int)→l.length=j+q →
  RL K (.run 107 h.length (.code Bo::.lp Bo (some ([0,1,7,8],[])) h.length::.blk 0 h.length::ks) [(0,.rows (l.map Zt)),(1,f),(7,I (l.length:Int)),(8,I i)] h) =
  if ixP p (l.drop j) j=-1 then R K (.run 107 h.length ks [] h) else some (I (ixP p (l.drop j) j),h)
 | 0,j,i,Bo,hB,hi,hq=>by
  subst hi
  have d:¬(j:Int) < (l.length:Int):=by omega
  rw [List.drop_of_length_le (by omega),show ixP p [] j=-1 from rfl,if_pos rfl]
  unfold Zf at hB
  simp -implicitDefEqProofs only [go_sem,simprocAttr,Tryz.f107,Zb] at hB
  subst hB
  rw [Zc]
  simp -implicitDefEqProofs only [go_sem,simprocAttr,d]
 | q+1,j,i,Bo,hB,hi,hq=>by
  subst hi
  have hB':=hB
  have d:(j:Int) < (l.length:Int):=by omega
  have h7:ZC .i64 ((j:Int)+1)=((j+1:Nat):Int):=by rw [ZV (by omega) (by omega)];omega
  obtain ⟨c,hcj⟩:∃ c,l[j]? = some c:=⟨l[j]'(by omega),List.getElem?_eq_getElem _⟩
  have hg:=Xz hcj
  have hx:=hc c (List.mem_of_getElem? hcj)
  have ih:=Zmh f h p hu l hl hc ks q (j+1) _ Bo hB' rfl (by omega)
  rw [ZE hcj]
  simp only [ZhZ,Zt] at hg hx
  by_cases hk:p c=true
  ·have e1:ixP p (c::l.drop (j+1)) j=(j:Int):=by simp only [ixP];rw [if_pos hk]
   rw [hk] at hx
   rw [e1,if_neg (by omega)]
   unfold Zf at hB
   simp -implicitDefEqProofs only [go_sem,simprocAttr,Tryz.f107,Zb] at hB
   subst hB
   rw [Zc]
   simp -implicitDefEqProofs only [go_sem,simprocAttr,d,h7,hg,hx,hu]
  ·have e1:ixP p (c::l.drop (j+1)) j=ixP p (l.drop (j+1)) (j+1):=by conv=>lhs;simp only [ixP];rw [if_neg hk]
   rw [Bool.eq_false_iff.2 hk] at hx
   rw [e1]
   unfold Zf at hB
   simp -implicitDefEqProofs only [go_sem,simprocAttr,Tryz.f107,Zb] at hB
   subst hB
   rw [Zc]
   simp -implicitDefEqProofs only [go_sem,simprocAttr,d,h7,hg,hx,hu]
   rw [ih]
theorem Zl7 (f:AV) (h:Zd) (p:Fgn→Bool) (hu:Z6 h.length (ZP h)=true) (l:List Fgn) (hl:l.length≤1000000) (hc:∀ c∈l,Yv nlA (R K) h [ZhZ c] f=some (.bool (p c),h)) :
  R K (.call 107 [.rows (l.map Zt),f] h)=some (I (ixP p l 0),h):=by
 have lk:=fun ks B hB=>Zmh f h p hu l hl hc ks l.length 0 0 B hB rfl (by omega)
 simp only [List.drop_zero] at lk
 rw [Zqj]
 simp -implicitDefEqProofs only [go_sem,simprocAttr,Tryz.f107,List.length_map]
 rw [lk _ _ ?_]
 ·split
  ·rename_i h0
   rw [h0]
   simp -implicitDefEqProofs only [go_sem,simprocAttr,hu]
  ·rfl
 ·rfl
abbrev ZdU:Col→Int:=fun _=>0
theorem Zjw {t:Tbl} {l:List (List UInt8)} {j:Nat} {n:List UInt8} (hn:l[j]? = some n):Wh t l ZdU j=if ixN n (t.cols.map (·.nm)) 0 < 0 then 5 else if (l.take j).contains n=true then 6 else 0:=by
 unfold Wh
 rw [hn]
 simp only
 split
 ·rfl
 ·split
  ·rfl
  ·split<;>rfl
theorem Wv {e:Nat→Int} {j q:Nat} (h:e j=0):evE e j (q+1)=evE e (j+1) q:=by simp only [evE];rw [if_pos h]
theorem Yi {e:Nat→Int} {j q:Nat} (h:e j≠0):evE e j (q+1)=e j:=by simp only [evE];rw [if_neg h]
theorem ZaQ (t:Tbl) (ht:t.cols.length≤1000000) (l:List (List UInt8)) (hl:l.length≤1000000) (ks:List It):∀ (q j:Nat) (i:Int) (Bo:Code),Zf Tryz.f105 0 Bo→i=(j:Int)→l.length=j+q →
  RL K (.run 105 0 (.code Bo::.lp Bo (some ([1,2,7,8,9],[])) 1::.blk 0 1::ks) [(1,.rows (SLs l)),(2,.ptr 0 0),(7,.rows (SLs l)),(8,I (l.length:Int)),(9,I i)] (tbH t)) =
  if evE (Wh t l ZdU) j q=0 then R K (.run 105 0 ks [] (tbH t)) else some (I (evE (Wh t l ZdU) j q),[])
 | 0,j,i,Bo,hB,hi,hq=>by
  subst hi
  have d:¬(j:Int) < (l.length:Int):=by omega
  unfold Zf at hB
  simp -implicitDefEqProofs only [go_sem,simprocAttr,Tryz.f105,Zb] at hB
  subst hB
  rw [Zc]
  simp -implicitDefEqProofs only [go_sem,simprocAttr,d,evE]
 | q+1,j,i,Bo,hB,hi,hq=>by
  subst hi
  have hB':=hB
  have d:(j:Int) < (l.length:Int):=by omega
  have h7:ZC .i64 ((j:Int)+1)=((j+1:Nat):Int):=Zs (n:=l.length) (by omega) (by omega)
  obtain ⟨n,hn⟩:=Ze (l:=l) (i:=j) (by omega)
  have hg:=Wg hn
  have h2:=WQ t n ht
  have h3:=Xx n (l.take j) (by simp;omega)
  have g1:((j:Int)≤(l.length:Int))=True:=eq_true (by omega)
  have g2:((0:Int)≤(j:Int))=True:=eq_true (by omega)
  have hN:=Zjw (t:=t) hn
  have ih:=ZaQ t ht l hl ks q (j+1) _ Bo hB' rfl (by omega)
  simp only [ZX,Za] at h2
  by_cases h4:ixN n (t.cols.map (·.nm)) 0 < 0
  ·rw [if_pos h4] at hN
   rw [Yi (by rw [hN];decide),hN,if_neg (by decide)]
   unfold Zf at hB
   simp -implicitDefEqProofs only [go_sem,simprocAttr,Tryz.f105,Zb] at hB
   subst hB
   rw [Zc]
   simp -implicitDefEqProofs only [go_sem,simprocAttr,Za,d,h7,hg,h2,h4]
  ·rw [if_neg h4] at hN
   have h9:(ixN n (t.cols.map (·.nm)) 0 < 0)=False:=eq_false h4
   by_cases h5:(l.take j).contains n=true
   ·rw [if_pos h5] at hN
    rw [h5] at h3
    rw [Yi (by rw [hN];decide),hN,if_neg (by decide)]
    unfold Zf at hB
    simp -implicitDefEqProofs only [go_sem,simprocAttr,Tryz.f105,Zb] at hB
    subst hB
    rw [Zc]
    simp -implicitDefEqProofs only [go_sem,simprocAttr,Za,d,h7,hg,h2,h9,h3,Wy,Xh,g1,g2,Int.toNat_natCast,Nat.sub_zero,List.length_map]
   ·rw [if_neg h5] at hN
    rw [Bool.eq_false_iff.2 h5] at h3
    rw [Wv hN]
    unfold Zf at hB
    simp -implicitDefEqProofs only [go_sem,simprocAttr,Tryz.f105,Zb] at hB
    subst hB
    rw [Zc]
    simp -implicitDefEqProofs only [go_sem,simprocAttr,Za,d,h7,hg,h2,h9,h3,Wy,Xh,g1,g2,Int.toNat_natCast,Nat.sub_zero,List.length_map]
    simp only [tbH,Za] at ih
    rw [ih]
    rfl
theorem ZaC (t:Tbl) (ht:t.cols.length≤1000000) (l:List (List UInt8)) (hl:l.length≤1000000):R K (.call 105 [ZX t,.rows (SLs l)] [])=some (I (QY t l ZdU),[]):=by
 have lk:=fun ks B hB=>ZaQ t ht l hl ks l.length 0 0 B hB rfl (by omega)
 simp only [tbH,Za] at lk
 unfold QY
 rw [Zqf]
 simp -implicitDefEqProofs only [go_sem,simprocAttr,Tryz.f105,Za,List.length_map]
 rw [lk _ _ ?_]
 ·split
  ·rename_i h0
   rw [h0]
   simp -implicitDefEqProofs only [go_sem,simprocAttr]
  ·rfl
 ·rfl
theorem ZdD (l:List Col) (i:Nat):List.take i (l.map ZO)=(l.take i).map ZO:=by simp [List.map_take]
theorem Wi:∀ l:List Col,YB 6 (l.map ZO)=true
 | []=>rfl
 | c::l=>by simpa [YB,ZO] using Wi l
theorem ZqI {l:List Col} {j:Nat} {c:Col} (h:l[j]? = some c):decide (0≤ixN c.nm ((l.take j).map (·.nm)) 0)=decide (ixN c.nm (l.map (·.nm)) 0 < (j:Int)):=by
 have hm:c.nm∈l.map (·.nm):=List.mem_map.2 ⟨c,List.mem_of_getElem? h,rfl⟩
 have h1:=Zkm c.nm (l.map (·.nm)) 0 j hm
 rw [Nat.zero_add,←List.map_take] at h1
 have h2:=W2 c.nm ((l.take j).map (·.nm)) 0
 congr 1
 rw [eq_iff_iff,h1]
 rcases J7 c.nm ((l.take j).map (·.nm)) 0 with h3 | h3
 ·rw [h3]
  constructor
  ·intro h;omega
  ·intro h;exact absurd h (h2.1 h3)
 ·constructor
  ·intro _
   refine Classical.byContradiction fun h4=>?_
   have:=h2.2 h4
   omega
  ·intro _;omega
theorem ZlY (t:Tbl) (ht:FitT t) (ks:List It):∀ (q j:Nat) (i:Int) (Bo:Code),Zf Tryz.f60 0 Bo→i=(j:Int)→t.cols.length=j+q →
  RL K (.run 60 0 (.code Bo::.lp Bo (some ([1,41,42,43],[])) 1::.blk 0 1::ks) [(1,.ptr 0 0),(41,.rows (t.cols.map ZO)),(42,I (t.cols.length:Int)),(43,I i)] (tbH t)) =
  if evE (Zel t) j q=0 then R K (.run 60 0 ks [(1,.ptr 0 0)] (tbH t)) else some (I (evE (Zel t) j q),[])
 | 0,j,i,Bo,hB,hi,hq=>by
  subst hi
  have d:¬(j:Int) < (t.cols.length:Int):=by omega
  unfold Zf at hB
  simp -implicitDefEqProofs only [go_sem,simprocAttr,Tryz.f60,Zb] at hB
  subst hB
  rw [Zc]
  simp -implicitDefEqProofs only [go_sem,simprocAttr,d,evE]
 | q+1,j,i,Bo,hB,hi,hq=>by
  subst hi
  have hB':=hB
  have hlen:=ht.cols
  have d:(j:Int) < (t.cols.length:Int):=by omega
  have h7:ZC .i64 ((j:Int)+1)=((j+1:Nat):Int):=Zs (n:=t.cols.length) (by omega) (by omega)
  obtain ⟨c,hc⟩:=Ze (l:=t.cols) (i:=j) (by omega)
  have hg:=YR hc
  have hm:c∈t.cols:=List.mem_of_getElem? hc
  have g1:((j:Int)≤(t.cols.length:Int))=True:=eq_true (by omega)
  have g2:((0:Int)≤(j:Int))=True:=eq_true (by omega)
  have h1:=Zm2 c.nm (ht.col c hm)
  have h2:=WQ ⟨[],t.cols.take j,[],[],[]⟩ c.nm (by simp;omega)
  have h3:=ZqI hc
  have h4:=ZcN c.kd c.df.k c.df.n c.df.s
  have ih:=ZlY t ht ks q (j+1) _ Bo hB' rfl (by omega)
  have hN:Zel t j=if ZaF c.nm=false then 5 else if ixN c.nm (t.cols.map (·.nm)) 0 < (j:Int) then 6 else QB c.kd c.df:=by
   unfold Zel;rw [hc]
  simp only [ZX,Za,ZO,List.map_nil] at h2 hg
  generalize QB c.kd ⟨c.df.k,c.df.n,c.df.s⟩=y at *
  by_cases a:ZaF c.nm=false
  ·rw [if_pos a] at hN
   rw [a] at h1
   rw [Yi (by rw [hN];decide),hN,if_neg (by decide)]
   unfold Zf at hB
   simp -implicitDefEqProofs only [go_sem,simprocAttr,Tryz.f60,Zb] at hB
   subst hB
   rw [Zc]
   simp -implicitDefEqProofs only [go_sem,simprocAttr,Za,ZO,d,h7,hg,h1]
  ·rw [if_neg a] at hN
   rw [Bool.not_eq_false] at a
   rw [a] at h1
   by_cases b:ixN c.nm (t.cols.map (·.nm)) 0 < (j:Int)
   ·rw [if_pos b] at hN
    rw [decide_eq_true b] at h3
    rw [Yi (by rw [hN];decide),hN,if_neg (by decide)]
    unfold Zf at hB
    simp -implicitDefEqProofs only [go_sem,simprocAttr,Tryz.f60,Zb] at hB
    subst hB
    rw [Zc]
    simp -implicitDefEqProofs only [go_sem,simprocAttr,Za,ZO,d,h7,hg,h1,h2,h3,ZdD,Wi,g1,g2,Int.toNat_natCast,Nat.sub_zero,List.length_map]
   ·rw [if_neg b] at hN
    rw [decide_eq_false b] at h3
    by_cases e:y=0
    ·rw [e] at hN h4
     rw [Wv hN]
     unfold Zf at hB
     simp -implicitDefEqProofs only [go_sem,simprocAttr,Tryz.f60,Zb] at hB
     subst hB
     rw [Zc]
     simp -implicitDefEqProofs only [go_sem,simprocAttr,Za,ZO,d,h7,hg,h1,h2,h3,h4,ZdD,Wi,g1,g2,Int.toNat_natCast,Nat.sub_zero,List.length_map,bne]
     simp only [tbH,Za] at ih
     rw [ih]
     rfl
    ·have de:(y==0)=false:=by simpa using e
     rw [Yi (by rw [hN];exact e),hN,if_neg e]
     unfold Zf at hB
     simp -implicitDefEqProofs only [go_sem,simprocAttr,Tryz.f60,Zb] at hB
     subst hB
     rw [Zc]
     simp -implicitDefEqProofs only [go_sem,simprocAttr,Za,ZO,d,h7,hg,h1,h2,h3,h4,ZdD,Wi,g1,g2,Int.toNat_natCast,Nat.sub_zero,List.length_map,bne,de]
theorem Zlj {t:Tbl} {l:List (List UInt8)} {j:Nat} {n:List UInt8} (hn:l[j]? = some n):Wh t l Zga j=if ixN n (t.cols.map (·.nm)) 0 < 0 then 5 else if (l.take j).contains n=true then 6 else (match t.cols[(ixN n (t.cols.map (·.nm)) 0).toNat]? with
  | some c=>Zga c
  | none=>0):=by
 unfold Wh
 rw [hn]
 try rfl
theorem ZoO (t:Tbl) (ht:FitT t) (ks:List It):∀ (q j:Nat) (i:Int) (Bo:Code),Zf Tryz.f60 3 Bo→i=(j:Int)→t.key.length=j+q →
  RL K (.run 60 0 (.code Bo::.lp Bo (some ([1,77,78,79],[])) 1::.blk 3 1::ks) [(1,.ptr 0 0),(77,.rows (SLs t.key)),(78,I (t.key.length:Int)),(79,I i)] (tbH t)) =
  if evE (Wh t t.key Zga) j q=0 then R K (.run 60 0 ks [(1,.ptr 0 0)] (tbH t)) else some (I (evE (Wh t t.key Zga) j q),[])
 | 0,j,i,Bo,hB,hi,hq=>by
  subst hi
  have d:¬(j:Int) < (t.key.length:Int):=by omega
  unfold Zf at hB
  simp -implicitDefEqProofs only [go_sem,simprocAttr,Tryz.f60,Zb] at hB
  subst hB
  rw [Zc]
  simp -implicitDefEqProofs only [go_sem,simprocAttr,d,evE]
 | q+1,j,i,Bo,hB,hi,hq=>by
  subst hi
  have hB':=hB
  have hlen:=ht.key
  have d:(j:Int) < (t.key.length:Int):=by omega
  have h7:ZC .i64 ((j:Int)+1)=((j+1:Nat):Int):=Zs (n:=t.key.length) (by omega) (by omega)
  obtain ⟨n,hn⟩:=Ze (l:=t.key) (i:=j) (by omega)
  have hg:=Wg hn
  have h2:=WQ t n ht.cols
  have h3:=Xx n (t.key.take j) (by simp;omega)
  have g1:((j:Int)≤(t.key.length:Int))=True:=eq_true (by omega)
  have g2:((0:Int)≤(j:Int))=True:=eq_true (by omega)
  have hN:=Zlj (t:=t) hn
  have ih:=ZoO t ht ks q (j+1) _ Bo hB' rfl (by omega)
  simp only [ZX,Za] at h2
  by_cases h4:ixN n (t.cols.map (·.nm)) 0 < 0
  ·rw [if_pos h4] at hN
   rw [Yi (by rw [hN];decide),hN,if_neg (by decide)]
   unfold Zf at hB
   simp -implicitDefEqProofs only [go_sem,simprocAttr,Tryz.f60,Zb] at hB
   subst hB
   rw [Zc]
   simp -implicitDefEqProofs only [go_sem,simprocAttr,Za,d,h7,hg,h2,h4]
  ·obtain ⟨a,c,h5,h6⟩:=Jb h4
   have h8:=YR h6
   rw [if_neg h4,h5,Int.toNat_natCast,h6] at hN
   simp only at hN
   rw [h5] at h2
   have h9:((a:Int) < 0)=False:=eq_false (by omega)
   simp only [ZO] at h8
   by_cases b:(t.key.take j).contains n=true
   ·rw [if_pos b] at hN
    rw [b] at h3
    rw [Yi (by rw [hN];decide),hN,if_neg (by decide)]
    unfold Zf at hB
    simp -implicitDefEqProofs only [go_sem,simprocAttr,Tryz.f60,Zb] at hB
    subst hB
    rw [Zc]
    simp -implicitDefEqProofs only [go_sem,simprocAttr,Za,d,h7,hg,h2,h9,h3,Wy,Xh,g1,g2,Int.toNat_natCast,Nat.sub_zero,List.length_map]
   ·rw [if_neg b] at hN
    rw [Bool.eq_false_iff.2 b] at h3
    rw [show Zga c=if c.nl=true then 9 else 0 from rfl] at hN
    by_cases e:c.nl=true
    ·rw [if_pos e] at hN
     rw [e] at h8
     rw [Yi (by rw [hN];decide),hN,if_neg (by decide)]
     unfold Zf at hB
     simp -implicitDefEqProofs only [go_sem,simprocAttr,Tryz.f60,Zb] at hB
     subst hB
     rw [Zc]
     simp -implicitDefEqProofs only [go_sem,simprocAttr,Za,ZO,d,h7,hg,h2,h9,h3,h8,Wy,Xh,g1,g2,Int.toNat_natCast,Nat.sub_zero,List.length_map]
    ·rw [if_neg e] at hN
     rw [Bool.eq_false_iff.2 e] at h8
     rw [Wv hN]
     unfold Zf at hB
     simp -implicitDefEqProofs only [go_sem,simprocAttr,Tryz.f60,Zb] at hB
     subst hB
     rw [Zc]
     simp -implicitDefEqProofs only [go_sem,simprocAttr,Za,ZO,d,h7,hg,h2,h9,h3,h8,Wy,Xh,g1,g2,Int.toNat_natCast,Nat.sub_zero,List.length_map]
     simp only [tbH,Za] at ih
     rw [ih]
     rfl
theorem ZeZ {j:Nat} (h:j≤1000000):(if ZC .i64 ((j:Int) - 1) < 0 then (0:Int) else ZC .i64 ((j:Int) - 1))=((j - 1:Nat):Int):=by
 rw [ZV (by omega) (by omega)]
 split<;>omega
theorem Zif {α:Type} {f:α→List UInt8} {l:List α} {j:Nat} {g:α} (h:l[j - 1]? = some g):QD (l.map f) j=f g:=by simp [QD,h]
theorem ZoR (t:Tbl) (ht:FitT t) (ks:List It):∀ (q j:Nat) (i:Int) (Bo:Code),Zf Tryz.f60 6 Bo→i=(j:Int)→t.fgn.length=j+q →
  RL K (.run 60 0 (.code Bo::.lp Bo (some ([1,106,107,108],[])) 1::.blk 6 1::ks) [(1,.ptr 0 0),(106,.rows (t.fgn.map Zt)),(107,I (t.fgn.length:Int)),(108,I i)] (tbH t)) =
  if evE (Zao t) j q=0 then R K (.run 60 0 ks [(1,.ptr 0 0)] (tbH t)) else some (I (evE (Zao t) j q),[])
 | 0,j,i,Bo,hB,hi,hq=>by
  subst hi
  have d:¬(j:Int) < (t.fgn.length:Int):=by omega
  unfold Zf at hB
  simp -implicitDefEqProofs only [go_sem,simprocAttr,Tryz.f60,Zb] at hB
  subst hB
  rw [Zc]
  simp -implicitDefEqProofs only [go_sem,simprocAttr,d,evE]
 | q+1,j,i,Bo,hB,hi,hq=>by
  subst hi
  have hB':=hB
  have hlen:=ht.fgn
  have d:(j:Int) < (t.fgn.length:Int):=by omega
  have h7:ZC .i64 ((j:Int)+1)=((j+1:Nat):Int):=Zs (n:=t.fgn.length) (by omega) (by omega)
  obtain ⟨f,hf⟩:=Ze (l:=t.fgn) (i:=j) (by omega)
  obtain ⟨g,hgg⟩:=Ze (l:=t.fgn) (i:=j - 1) (by omega)
  have hg:=Xz hf
  have hg2:=Xz hgg
  have hm:=List.mem_of_getElem? hf
  have hb:QD (t.fgn.map (·.nm)) j=g.nm:=Zif (f:=(·.nm)) hgg
  have hmx:=ZeZ (j:=j) (by omega)
  have e0:((j:Int)==0)=(j==0):=by rw [Bool.eq_iff_iff,beq_iff_eq,beq_iff_eq];omega
  have h1:=Zdn f.nm g.nm (j==0) (ht.fg f hm).1
  have h2:=ZaC t ht.cols f.cols (ht.fg f hm).2
  have ih:=ZoR t ht ks q (j+1) _ Bo hB' rfl (by omega)
  have hN:Zao t j=orE (Qh f.nm g.nm (j==0)) (QY t f.cols ZdU):=by
   unfold Zao;rw [hf];simp only;rw [hb]
  simp only [ZX,Za,Zt] at h2 hg hg2
  generalize Qh f.nm g.nm (j==0)=y at *
  generalize QY t f.cols ZdU=z at *
  by_cases hy:y=0
  ·subst hy
   by_cases hz:z=0
   ·subst hz
    rw [Wv hN]
    unfold Zf at hB
    simp -implicitDefEqProofs only [go_sem,simprocAttr,Tryz.f60,Zb] at hB
    subst hB
    rw [Zc]
    simp -implicitDefEqProofs only [go_sem,simprocAttr,Za,Zt,d,h7,hg,hg2,hmx,e0,h1,h2,bne]
    simp only [tbH,Za] at ih
    rw [ih]
    rfl
   ·have dz:(z==0)=false:=by simpa using hz
    have hN2:Zao t j=z:=hN
    rw [Yi (by rw [hN2];exact hz),hN2,if_neg hz]
    unfold Zf at hB
    simp -implicitDefEqProofs only [go_sem,simprocAttr,Tryz.f60,Zb] at hB
    subst hB
    rw [Zc]
    simp -implicitDefEqProofs only [go_sem,simprocAttr,Za,Zt,d,h7,hg,hg2,hmx,e0,h1,h2,bne,dz]
  ·have dy:(y==0)=false:=by simpa using hy
   have hN2:Zao t j=y:=by rw [hN];unfold orE;rw [if_neg hy]
   rw [Yi (by rw [hN2];exact hy),hN2,if_neg hy]
   unfold Zf at hB
   simp -implicitDefEqProofs only [go_sem,simprocAttr,Tryz.f60,Zb] at hB
   subst hB
   rw [Zc]
   simp -implicitDefEqProofs only [go_sem,simprocAttr,Za,Zt,d,h7,hg,hg2,hmx,e0,h1,bne,dy]
theorem Zqk (t:Tbl) (ht:FitT t) (ks:List It):∀ (q j:Nat) (i:Int) (Bo:Code),Zf Tryz.f60 8 Bo→i=(j:Int)→t.idx.length=j+q →
  RL K (.run 60 0 (.code Bo::.lp Bo (some ([1,138,139,140],[])) 1::.blk 8 1::ks) [(1,.ptr 0 0),(138,.rows (t.idx.map ZT)),(139,I (t.idx.length:Int)),(140,I i)] (tbH t)) =
  if evE (JK t) j q=0 then R K (.run 60 0 ks [] (tbH t)) else some (I (evE (JK t) j q),[])
 | 0,j,i,Bo,hB,hi,hq=>by
  subst hi
  have d:¬(j:Int) < (t.idx.length:Int):=by omega
  unfold Zf at hB
  simp -implicitDefEqProofs only [go_sem,simprocAttr,Tryz.f60,Zb] at hB
  subst hB
  rw [Zc]
  simp -implicitDefEqProofs only [go_sem,simprocAttr,d,evE]
 | q+1,j,i,Bo,hB,hi,hq=>by
  subst hi
  have hB':=hB
  have hlen:=ht.idx
  have d:(j:Int) < (t.idx.length:Int):=by omega
  have h7:ZC .i64 ((j:Int)+1)=((j+1:Nat):Int):=Zs (n:=t.idx.length) (by omega) (by omega)
  obtain ⟨f,hf⟩:=Ze (l:=t.idx) (i:=j) (by omega)
  obtain ⟨g,hgg⟩:=Ze (l:=t.idx) (i:=j - 1) (by omega)
  have hg:=Ji hf
  have hg2:=Ji hgg
  have hm:=List.mem_of_getElem? hf
  have hb:QD (t.idx.map (·.nm)) j=g.nm:=Zif (f:=(·.nm)) hgg
  have hmx:=ZeZ (j:=j) (by omega)
  have e0:((j:Int)==0)=(j==0):=by rw [Bool.eq_iff_iff,beq_iff_eq,beq_iff_eq];omega
  have h1:=Zdn f.nm g.nm (j==0) (ht.ix f hm).1
  have h2:=ZaC t ht.cols f.cols (ht.ix f hm).2
  have ih:=Zqk t ht ks q (j+1) _ Bo hB' rfl (by omega)
  have hN:JK t j=orE (Qh f.nm g.nm (j==0)) (if f.cols.length=0 then 3 else if 8 < f.cols.length then 2 else QY t f.cols ZdU):=by
   unfold JK;rw [hf];simp only;rw [hb]
  simp only [ZX,Za,ZT] at h2 hg hg2
  generalize Qh f.nm g.nm (j==0)=y at *
  generalize QY t f.cols ZdU=z at *
  by_cases hy:y=0
  ·subst hy
   by_cases a:f.cols.length=0
   ·have d0:((f.cols.length:Int)==0)=true:=by simp [a]
    have hN2:JK t j=3:=by rw [hN,if_pos a];rfl
    rw [Yi (by rw [hN2];decide),hN2,if_neg (by decide)]
    unfold Zf at hB
    simp -implicitDefEqProofs only [go_sem,simprocAttr,Tryz.f60,Zb] at hB
    subst hB
    rw [Zc]
    simp -implicitDefEqProofs only [go_sem,simprocAttr,Za,ZT,d,h7,hg,hg2,hmx,e0,h1,bne,List.length_map,d0]
   ·have d0:((f.cols.length:Int)==0)=false:=by rw [←Bool.not_eq_true,beq_iff_eq];omega
    rw [if_neg a] at hN
    by_cases b:8 < f.cols.length
    ·have d8:((8:Int) < (f.cols.length:Int))=True:=eq_true (by omega)
     have hN2:JK t j=2:=by rw [hN,if_pos b];rfl
     rw [Yi (by rw [hN2];decide),hN2,if_neg (by decide)]
     unfold Zf at hB
     simp -implicitDefEqProofs only [go_sem,simprocAttr,Tryz.f60,Zb] at hB
     subst hB
     rw [Zc]
     simp -implicitDefEqProofs only [go_sem,simprocAttr,Za,ZT,d,h7,hg,hg2,hmx,e0,h1,bne,List.length_map,d0,d8]
    ·have d8:((8:Int) < (f.cols.length:Int))=False:=eq_false (by omega)
     rw [if_neg b] at hN
     by_cases hz:z=0
     ·subst hz
      rw [Wv hN]
      unfold Zf at hB
      simp -implicitDefEqProofs only [go_sem,simprocAttr,Tryz.f60,Zb] at hB
      subst hB
      rw [Zc]
      simp -implicitDefEqProofs only [go_sem,simprocAttr,Za,ZT,d,h7,hg,hg2,hmx,e0,h1,h2,bne,List.length_map,d0,d8]
      simp only [tbH,Za] at ih
      rw [ih]
      rfl
     ·have dz:(z==0)=false:=by simpa using hz
      have hN2:JK t j=z:=hN
      rw [Yi (by rw [hN2];exact hz),hN2,if_neg hz]
      unfold Zf at hB
      simp -implicitDefEqProofs only [go_sem,simprocAttr,Tryz.f60,Zb] at hB
      subst hB
      rw [Zc]
      simp -implicitDefEqProofs only [go_sem,simprocAttr,Za,ZT,d,h7,hg,hg2,hmx,e0,h1,h2,bne,List.length_map,d0,d8,dz]
  ·have dy:(y==0)=false:=by simpa using hy
   have hN2:JK t j=y:=by rw [hN];unfold orE;rw [if_neg hy]
   rw [Yi (by rw [hN2];exact hy),hN2,if_neg hy]
   unfold Zf at hB
   simp -implicitDefEqProofs only [go_sem,simprocAttr,Tryz.f60,Zb] at hB
   subst hB
   rw [Zc]
   simp -implicitDefEqProofs only [go_sem,simprocAttr,Za,ZT,d,h7,hg,hg2,hmx,e0,h1,bne,dy]
theorem Zp7 (t:Tbl):evE (Q0 t) 0 4=if evE (Zel t) 0 t.cols.length=0 then (if Zho t=0 then (if evE (Zao t) 0 t.fgn.length=0 then evE (JK t) 0 t.idx.length else evE (Zao t) 0 t.fgn.length) else Zho t) else evE (Zel t) 0 t.cols.length:=by
 have e:evE (Q0 t) 0 4=if QU t=0 then (if Zho t=0 then (if evE (Zao t) 0 t.fgn.length=0 then (if evE (JK t) 0 t.idx.length=0 then 0 else evE (JK t) 0 t.idx.length) else evE (Zao t) 0 t.fgn.length) else Zho t) else QU t:=rfl
 rw [e]
 unfold QU
 generalize evE (JK t) 0 t.idx.length=z
 have ez:(if z=0 then 0 else z)=z:=by split<;>simp_all
 rw [ez]
theorem Zh6 (t:Tbl) (ht:FitT t):R K (.call 60 [ZX t] [])=some (I (if ZiR t=true then 2 else evE (Q0 t) 0 4),[]):=by
 have l0:=fun ks B hB=>ZlY t ht ks t.cols.length 0 0 B hB rfl (by omega)
 have l3:=fun ks B hB=>ZoO t ht ks t.key.length 0 0 B hB rfl (by omega)
 have l6:=fun ks B hB=>ZoR t ht ks t.fgn.length 0 0 B hB rfl (by omega)
 have l8:=fun ks B hB=>Zqk t ht ks t.idx.length 0 0 B hB rfl (by omega)
 simp only [tbH,Za] at l0 l3 l6 l8
 have b1:decide ((60:Int) < (t.cols.length:Int))=decide (60 < t.cols.length):=by congr 1;simp only [eq_iff_iff];omega
 have b2:decide ((8:Int) < (t.key.length:Int))=decide (8 < t.key.length):=by congr 1;simp only [eq_iff_iff];omega
 have b3:decide ((20:Int) < (t.fgn.length:Int))=decide (20 < t.fgn.length):=by congr 1;simp only [eq_iff_iff];omega
 have b4:decide ((20:Int) < (t.idx.length:Int))=decide (20 < t.idx.length):=by congr 1;simp only [eq_iff_iff];omega
 rw [Zp7]
 cases hb:ZiR t with
 | true =>
  unfold ZiR at hb
  generalize decide (60 < t.cols.length)=u1 at *
  generalize decide (8 < t.key.length)=u2 at *
  generalize decide (20 < t.fgn.length)=u3 at *
  generalize decide (20 < t.idx.length)=u4 at *
  rw [Zmr]
  simp -implicitDefEqProofs only [go_sem,simprocAttr,Tryz.f60,Za,List.length_map,b1,b2,b3,b4]
  repeat' ((first | apply ZI | apply ZR | apply ZY)<;>intro hc<;>simp -implicitDefEqProofs only [hc,go_sem,simprocAttr,Za,List.length_map,b1,b2,b3,b4])
  all_goals simp_all
 | false =>
  unfold ZiR at hb
  simp only [Bool.or_eq_false_iff] at hb
  obtain ⟨u1,u2,u3,u4⟩:=hb
  rw [if_neg (by decide)]
  rw [Zmr]
  simp -implicitDefEqProofs only [go_sem,simprocAttr,Tryz.f60,Za,List.length_map,b1,b2,b3,b4,u1,u2,u3,u4]
  rw [l0 _ _ ?_]
  ·by_cases z0:evE (Zel t) 0 t.cols.length=0
   ·rw [if_pos z0,if_pos z0]
    unfold Zho
    by_cases a:t.key.length=0
    ·have d0:((t.key.length:Int)==0)=true:=by simp [a]
     simp -implicitDefEqProofs only [go_sem,simprocAttr,Za,List.length_map,d0]
     simp [a]
    ·have d0:((t.key.length:Int)==0)=false:=by rw [←Bool.not_eq_true,beq_iff_eq];omega
     rw [if_neg a]
     unfold QY
     simp -implicitDefEqProofs only [go_sem,simprocAttr,Za,List.length_map,d0]
     rw [l3 _ _ ?_]
     ·by_cases z1:evE (Wh t t.key Zga) 0 t.key.length=0
      ·rw [if_pos z1,if_pos z1]
       simp -implicitDefEqProofs only [go_sem,simprocAttr,Za,List.length_map]
       rw [l6 _ _ ?_]
       ·by_cases z2:evE (Zao t) 0 t.fgn.length=0
        ·rw [if_pos z2,if_pos z2]
         simp -implicitDefEqProofs only [go_sem,simprocAttr,Za,List.length_map]
         rw [l8 _ _ ?_]
         ·by_cases z3:evE (JK t) 0 t.idx.length=0
          ·rw [if_pos z3,z3]
           simp -implicitDefEqProofs only [go_sem,simprocAttr]
          ·rw [if_neg z3]
         ·rfl
        ·rw [if_neg z2,if_neg z2]
       ·rfl
      ·rw [if_neg z1,if_neg z1]
     ·rfl
   ·rw [if_neg z0,if_neg z0]
  ·rfl
theorem ZtZ (x:List Tbl) (hx:FitX x) (ks:List It):∀ (q j:Nat) (i:Int) (Bo:Code),Zf Tryz.f22 0 Bo→i=(j:Int)→x.length=j+q →
  RL K (.run 22 0 (.code Bo::.lp Bo (some ([1,19,20,21],[])) 1::.blk 0 1::ks) [(1,.ptr 0 0),(19,.rows (x.map Za)),(20,I (x.length:Int)),(21,I i)] (xH x)) =
  if evE (YW x) j q=0 then R K (.run 22 0 ks [(1,.ptr 0 0)] (xH x)) else some (I (evE (YW x) j q),[])
 | 0,j,i,Bo,hB,hi,hq=>by
  subst hi
  have d:¬(j:Int) < (x.length:Int):=by omega
  unfold Zf at hB
  simp -implicitDefEqProofs only [go_sem,simprocAttr,Tryz.f22,Zb] at hB
  subst hB
  rw [Zc]
  simp -implicitDefEqProofs only [go_sem,simprocAttr,d,evE]
 | q+1,j,i,Bo,hB,hi,hq=>by
  subst hi
  have hB':=hB
  have hlen:=hx.len
  have d:(j:Int) < (x.length:Int):=by omega
  have h7:ZC .i64 ((j:Int)+1)=((j+1:Nat):Int):=Zs (n:=x.length) (by omega) (by omega)
  obtain ⟨t,ht⟩:=Ze (l:=x) (i:=j) (by omega)
  obtain ⟨g,hgg⟩:=Ze (l:=x) (i:=j - 1) (by omega)
  have hg:=ZG ht
  have hg2:=ZG hgg
  have hT:=hx.tbl t (List.mem_of_getElem? ht)
  have hb:QD (x.map (·.nm)) j=g.nm:=Zif (f:=(·.nm)) hgg
  have hmx:=ZeZ (j:=j) (by omega)
  have e0:((j:Int)==0)=(j==0):=by rw [Bool.eq_iff_iff,beq_iff_eq,beq_iff_eq];omega
  have h1:=Zdn t.nm g.nm (j==0) hT.nm
  have h2:=Zh6 t hT
  have ih:=ZtZ x hx ks q (j+1) _ Bo hB' rfl (by omega)
  have hN:YW x j=orE (Qh t.nm g.nm (j==0)) (if ZiR t=true then 2 else evE (Q0 t) 0 4):=by
   unfold YW;rw [ht];simp only;rw [hb]
  simp only [ZX,Za] at h2 hg hg2
  generalize Qh t.nm g.nm (j==0)=y at *
  generalize (if ZiR t=true then 2 else evE (Q0 t) 0 4)=z at *
  by_cases hy:y=0
  ·subst hy
   by_cases hz:z=0
   ·subst hz
    rw [Wv hN]
    unfold Zf at hB
    simp -implicitDefEqProofs only [go_sem,simprocAttr,Tryz.f22,Zb] at hB
    subst hB
    rw [Zc]
    simp -implicitDefEqProofs only [go_sem,simprocAttr,Za,d,h7,hg,hg2,hmx,e0,h1,h2,bne]
    simp only [xH] at ih
    rw [ih]
   ·have dz:(z==0)=false:=by simpa using hz
    have hN2:YW x j=z:=hN
    rw [Yi (by rw [hN2];exact hz),hN2,if_neg hz]
    unfold Zf at hB
    simp -implicitDefEqProofs only [go_sem,simprocAttr,Tryz.f22,Zb] at hB
    subst hB
    rw [Zc]
    simp -implicitDefEqProofs only [go_sem,simprocAttr,Za,d,h7,hg,hg2,hmx,e0,h1,h2,bne,dz]
  ·have dy:(y==0)=false:=by simpa using hy
   have hN2:YW x j=y:=by rw [hN];unfold orE;rw [if_neg hy]
   rw [Yi (by rw [hN2];exact hy),hN2,if_neg hy]
   unfold Zf at hB
   simp -implicitDefEqProofs only [go_sem,simprocAttr,Tryz.f22,Zb] at hB
   subst hB
   rw [Zc]
   simp -implicitDefEqProofs only [go_sem,simprocAttr,Za,d,h7,hg,hg2,hmx,e0,h1,bne,dy]
abbrev Zss (x:List Tbl) (t:Tbl) (f:Fgn):Zd:=[.cells [.rows (x.map Za)],.cells (Za t),.cells (Zt f)]
theorem ZtH (x:List Tbl) (hx:FitX x) (t:Tbl) (ht:t∈x) (f:Fgn) (hf:f∈t.fgn) (u:Tbl) (a:Nat) (hu:x[a]? = some u) (hl:f.cols.length=u.key.length) (h1:Zr t f.cols) (h2:Zr u u.key) (p r:Int) (ks:List It) :
  ∀ (q j:Nat) (i:Int) (Bo:Code),Zf Tryz.f22 6 Bo→i=(j:Int)→f.cols.length=j+q →
  RL K (.run 22 0 (.code Bo::.lp Bo (some ([1,8,10,11,49,50,51,56,57,58,84,85,86],[])) 3::.blk 6 3::ks) [(1,.ptr 0 0),(8,.ptr 1 0),(10,.ptr 2 0),(11,I (a:Int)),(49,.rows (x.map Za)),(50,I (x.length:Int)),(51,I p),(56,.rows (t.fgn.map Zt)),(57,I (t.fgn.length:Int)),(58,I r),(84,.rows (SLs u.key)),(85,I (u.key.length:Int)),(86,I i)] (Zss x t f)) =
  if evE (kdE t u f.cols u.key) j q=0 then R K (.run 22 0 ks [(1,.ptr 0 0),(8,.ptr 1 0),(49,.rows (x.map Za)),(50,I (x.length:Int)),(51,I p),(56,.rows (t.fgn.map Zt)),(57,I (t.fgn.length:Int)),(58,I r)] (Zss x t f)) else some (I (evE (kdE t u f.cols u.key) j q),[])
 | 0,j,i,Bo,hB,hi,hq=>by
  subst hi
  have d:¬(j:Int) < (u.key.length:Int):=by omega
  unfold Zf at hB
  simp -implicitDefEqProofs only [go_sem,simprocAttr,Tryz.f22,Zb] at hB
  subst hB
  rw [Zc]
  simp -implicitDefEqProofs only [go_sem,simprocAttr,d,evE]
 | q+1,j,i,Bo,hB,hi,hq=>by
  subst hi
  have hB':=hB
  have hT:=hx.tbl t ht
  have hU:=hx.tbl u (List.mem_of_getElem? hu)
  have hk:=hU.key
  have d:(j:Int) < (u.key.length:Int):=by omega
  have h7:ZC .i64 ((j:Int)+1)=((j+1:Nat):Int):=Zs (n:=u.key.length) (by omega) (by omega)
  obtain ⟨m,hm⟩:=Ze (l:=f.cols) (i:=j) (by omega)
  obtain ⟨n,hn⟩:=Ze (l:=u.key) (i:=j) (by omega)
  obtain ⟨c1,c,p1,p2⟩:=Jb (h1 m (List.mem_of_getElem? hm))
  obtain ⟨d1,e,q1,q2⟩:=Jb (h2 n (List.mem_of_getElem? hn))
  have g1:=Wg hm
  have g2:=Wg hn
  have g3:=WQ t m hT.cols
  have g4:=WQ u n hU.cols
  rw [p1] at g3
  rw [q1] at g4
  have g5:=YR p2
  have g6:=YR q2
  have g7:=ZG hu
  have e1:Zgm t m=some c:=by unfold Zgm;rw [p1,Int.toNat_natCast,p2]
  have e2:Zgm u n=some e:=by unfold Zgm;rw [q1,Int.toNat_natCast,q2]
  have hN:kdE t u f.cols u.key j=if c.kd=e.kd then 0 else 8:=by
   unfold kdE
   rw [hm,hn]
   simp only
   rw [e1,e2]
  have ih:=ZtH x hx t ht f hf u a hu hl h1 h2 p r ks q (j+1) _ Bo hB' rfl (by omega)
  simp only [ZX,Za,ZO] at g3 g4 g5 g6 g7
  by_cases hd:c.kd=e.kd
  ·have dk:(c.kd==e.kd)=true:=by simpa using hd
   rw [if_pos hd] at hN
   rw [Wv hN]
   unfold Zf at hB
   simp -implicitDefEqProofs only [go_sem,simprocAttr,Tryz.f22,Zb] at hB
   subst hB
   rw [Zc]
   simp -implicitDefEqProofs only [go_sem,simprocAttr,Za,Zt,ZO,d,h7,g1,g2,g3,g4,g5,g6,g7,bne,dk]
   simp only [Zss,Za,Zt] at ih
   rw [ih]
   rfl
  ·have dk:(c.kd==e.kd)=false:=by simpa using hd
   rw [if_neg hd] at hN
   rw [Yi (by rw [hN];decide),hN,if_neg (by decide)]
   unfold Zf at hB
   simp -implicitDefEqProofs only [go_sem,simprocAttr,Tryz.f22,Zb] at hB
   subst hB
   rw [Zc]
   simp -implicitDefEqProofs only [go_sem,simprocAttr,Za,Zt,ZO,d,h7,g1,g2,g3,g4,g5,g6,g7,bne,dk]
theorem Ztr (x:List Tbl) (hx:FitX x) (t:Tbl) (ht:t∈x) (hO:∀ f∈t.fgn,Zr t f.cols) (hK:∀ u∈x,Zr u u.key) (p:Int) (ks:List It) :
  ∀ (q j:Nat) (i:Int) (Bo:Code),Zf Tryz.f22 4 Bo→i=(j:Int)→t.fgn.length=j+q →
  RL K (.run 22 0 (.code Bo::.lp Bo (some ([1,8,49,50,51,56,57,58],[])) 2::.blk 4 2::ks) [(1,.ptr 0 0),(8,.ptr 1 0),(49,.rows (x.map Za)),(50,I (x.length:Int)),(51,I p),(56,.rows (t.fgn.map Zt)),(57,I (t.fgn.length:Int)),(58,I i)] (xtH x t)) =
  if evE (fkE x t) j q=0 then R K (.run 22 0 ks [(1,.ptr 0 0),(49,.rows (x.map Za)),(50,I (x.length:Int)),(51,I p)] (xtH x t)) else some (I (evE (fkE x t) j q),[])
 | 0,j,i,Bo,hB,hi,hq=>by
  subst hi
  have d:¬(j:Int) < (t.fgn.length:Int):=by omega
  unfold Zf at hB
  simp -implicitDefEqProofs only [go_sem,simprocAttr,Tryz.f22,Zb] at hB
  subst hB
  rw [Zc]
  simp -implicitDefEqProofs only [go_sem,simprocAttr,d,evE]
 | q+1,j,i,Bo,hB,hi,hq=>by
  subst hi
  have hB':=hB
  have hT:=hx.tbl t ht
  have hlen:=hT.fgn
  have d:(j:Int) < (t.fgn.length:Int):=by omega
  have h7:ZC .i64 ((j:Int)+1)=((j+1:Nat):Int):=Zs (n:=t.fgn.length) (by omega) (by omega)
  obtain ⟨f,hf⟩:=Ze (l:=t.fgn) (i:=j) (by omega)
  have hg:=Xz hf
  have hm:=List.mem_of_getElem? hf
  have h1:=Yu x f.tb hx.len
  have ih:=Ztr x hx t ht hO hK p ks q (j+1) _ Bo hB' rfl (by omega)
  have hN:fkE x t j=Zok x t f:=by unfold fkE;rw [hf]
  simp only [Zt] at hg
  unfold Zok at hN
  by_cases h0:ixN f.tb (x.map (·.nm)) 0 < 0
  ·rw [if_pos h0] at hN
   rw [Yi (by rw [hN];decide),hN,if_neg (by decide)]
   unfold Zf at hB
   simp -implicitDefEqProofs only [go_sem,simprocAttr,Tryz.f22,Zb] at hB
   subst hB
   rw [Zc]
   simp -implicitDefEqProofs only [go_sem,simprocAttr,Zt,d,h7,hg,h1,h0]
  ·obtain ⟨a,u,h5,h6⟩:=Zcx h0
   have g7:=ZG h6
   have hu:=List.mem_of_getElem? h6
   have h9:((a:Int) < 0)=False:=eq_false (by omega)
   rw [if_neg h0,h5,Int.toNat_natCast,h6] at hN
   simp only at hN
   rw [h5] at h1
   simp only [Za] at g7
   by_cases hl:f.cols.length=u.key.length
   ·have dl:((f.cols.length:Int)==(u.key.length:Int))=true:=by rw [hl,beq_iff_eq]
    rw [if_pos hl] at hN
    have l6:=fun ks B hB=>ZtH x hx t ht f hm u a h6 hl (hO f hm) (hK u hu) p (j:Int) ks f.cols.length 0 0 B hB rfl (by omega)
    simp only [Zss,Za,Zt] at l6
    by_cases z:evE (kdE t u f.cols u.key) 0 f.cols.length=0
    ·rw [z] at hN
     rw [Wv hN]
     unfold Zf at hB
     simp -implicitDefEqProofs only [go_sem,simprocAttr,Tryz.f22,Zb] at hB
     subst hB
     rw [Zc]
     simp -implicitDefEqProofs only [go_sem,simprocAttr,Zt,Za,d,h7,hg,h1,h9,g7,List.length_map,bne,dl]
     rw [l6 _ _ ?_,if_pos z]
     ·simp -implicitDefEqProofs only [go_sem,simprocAttr,Zt,Za,d,h7]
      simp only [xtH,Za] at ih
      rw [ih]
      rfl
     ·rfl
    ·rw [Yi (by rw [hN];exact z),hN,if_neg z]
     unfold Zf at hB
     simp -implicitDefEqProofs only [go_sem,simprocAttr,Tryz.f22,Zb] at hB
     subst hB
     rw [Zc]
     simp -implicitDefEqProofs only [go_sem,simprocAttr,Zt,Za,d,h7,hg,h1,h9,g7,List.length_map,bne,dl]
     rw [l6 _ _ ?_,if_neg z]
     rfl
   ·have dl:((f.cols.length:Int)==(u.key.length:Int))=false:=by rw [←Bool.not_eq_true,beq_iff_eq];omega
    rw [if_neg hl] at hN
    rw [Yi (by rw [hN];decide),hN,if_neg (by decide)]
    unfold Zf at hB
    simp -implicitDefEqProofs only [go_sem,simprocAttr,Tryz.f22,Zb] at hB
    subst hB
    rw [Zc]
    simp -implicitDefEqProofs only [go_sem,simprocAttr,Zt,Za,d,h7,hg,h1,h9,g7,List.length_map,bne,dl]
theorem ZtK (x:List Tbl) (hx:FitX x) (hO:∀ t∈x,TabOk t) (ks:List It) :
  ∀ (q j:Nat) (i:Int) (Bo:Code),Zf Tryz.f22 2 Bo→i=(j:Int)→x.length=j+q →
  RL K (.run 22 0 (.code Bo::.lp Bo (some ([1,49,50,51],[])) 1::.blk 2 1::ks) [(1,.ptr 0 0),(49,.rows (x.map Za)),(50,I (x.length:Int)),(51,I i)] (xH x)) =
  if evE (Qq x) j q=0 then R K (.run 22 0 ks [] (xH x)) else some (I (evE (Qq x) j q),[])
 | 0,j,i,Bo,hB,hi,hq=>by
  subst hi
  have d:¬(j:Int) < (x.length:Int):=by omega
  unfold Zf at hB
  simp -implicitDefEqProofs only [go_sem,simprocAttr,Tryz.f22,Zb] at hB
  subst hB
  rw [Zc]
  simp -implicitDefEqProofs only [go_sem,simprocAttr,d,evE]
 | q+1,j,i,Bo,hB,hi,hq=>by
  subst hi
  have hB':=hB
  have hlen:=hx.len
  have d:(j:Int) < (x.length:Int):=by omega
  have h7:ZC .i64 ((j:Int)+1)=((j+1:Nat):Int):=Zs (n:=x.length) (by omega) (by omega)
  obtain ⟨t,ht⟩:=Ze (l:=x) (i:=j) (by omega)
  have hg:=ZG ht
  have hm:=List.mem_of_getElem? ht
  have ih:=ZtK x hx hO ks q (j+1) _ Bo hB' rfl (by omega)
  have hN:Qq x j=evE (fkE x t) 0 t.fgn.length:=by unfold Qq;rw [ht]
  have l4:=fun ks B hB=>Ztr x hx t hm (hO t hm).fg (fun u hu=>(hO u hu).key) (j:Int) ks t.fgn.length 0 0 B hB rfl (by omega)
  simp only [xtH,Za] at l4 hg
  by_cases z:evE (fkE x t) 0 t.fgn.length=0
  ·rw [z] at hN
   rw [Wv hN]
   unfold Zf at hB
   simp -implicitDefEqProofs only [go_sem,simprocAttr,Tryz.f22,Zb] at hB
   subst hB
   rw [Zc]
   simp -implicitDefEqProofs only [go_sem,simprocAttr,Za,d,h7,hg,List.length_map]
   rw [l4 _ _ ?_,if_pos z]
   ·simp -implicitDefEqProofs only [go_sem,simprocAttr,Za,d,h7]
    simp only [xH] at ih
    rw [ih]
   ·rfl
  ·rw [Yi (by rw [hN];exact z),hN,if_neg z]
   unfold Zf at hB
   simp -implicitDefEqProofs only [go_sem,simprocAttr,Tryz.f22,Zb] at hB
   subst hB
   rw [Zc]
   simp -implicitDefEqProofs only [go_sem,simprocAttr,Za,d,h7,hg,List.length_map]
   rw [l4 _ _ ?_,if_neg z]
   rfl
theorem ZrH (x:List Tbl):evE (Zgk x) 0 2=if evE (YW x) 0 x.length=0 then evE (Qq x) 0 x.length else evE (YW x) 0 x.length:=by
 have e:evE (Zgk x) 0 2=if evE (YW x) 0 x.length=0 then (if evE (Qq x) 0 x.length=0 then 0 else evE (Qq x) 0 x.length) else evE (YW x) 0 x.length:=rfl
 rw [e]
 generalize evE (Qq x) 0 x.length=z
 have ez:(if z=0 then 0 else z)=z:=by split<;>simp_all
 rw [ez]
theorem ZbD (x:List Tbl) (hx:FitX x):R K (.call 22 [WI x] [])=some (I (WL x),[]):=by
 have l0:=fun ks B hB=>ZtZ x hx ks x.length 0 0 B hB rfl (by omega)
 simp only [xH] at l0
 unfold WL
 by_cases b:60 < x.length
 ·have d:((60:Int) < (x.length:Int))=True:=eq_true (by omega)
  rw [if_pos b]
  rw [Zl1]
  simp -implicitDefEqProofs only [go_sem,simprocAttr,Tryz.f22,List.length_map,d]
 ·have d:((60:Int) < (x.length:Int))=False:=eq_false (by omega)
  rw [if_neg b,ZrH]
  rw [Zl1]
  simp -implicitDefEqProofs only [go_sem,simprocAttr,Tryz.f22,List.length_map,d]
  rw [l0 _ _ ?_]
  ·by_cases z0:evE (YW x) 0 x.length=0
   ·have l2:=fun ks B hB=>ZtK x hx (ZdM z0).2 ks x.length 0 0 B hB rfl (by omega)
    simp only [xH] at l2
    rw [if_pos z0,if_pos z0]
    simp -implicitDefEqProofs only [go_sem,simprocAttr,List.length_map]
    rw [l2 _ _ ?_]
    ·by_cases z1:evE (Qq x) 0 x.length=0
     ·rw [if_pos z1,z1]
      simp -implicitDefEqProofs only [go_sem,simprocAttr]
     ·rw [if_neg z1]
    ·rfl
   ·rw [if_neg z0,if_neg z0]
  ·rfl
def bls (n:Nat) (g:Nat→Bool):List (List AV):=(List.range n).map fun j=>[AV.bool (g j)]
def Wp (n d:Nat) (loc:Nat→Nat):List (List AV):=(List.range n).map fun a=>[if a < d then AV.own (loc a) n else .nils]
theorem Zar {n j:Nat} (g:Nat→Bool) (h:j < n):(bls n g)[j]? = some [.bool (g j)]:=by simp [bls,h]
theorem Zb9 {n j:Nat} (g:Nat→Bool) (h:j < n):at? (bls n g) (j:Int)=some [.bool (g j)]:=Z2 (Zar g h)
theorem Zbd (n:Nat) (g:Nat→Bool):(bls n g).length=n:=by simp [bls]
theorem Zg6 (n j:Nat) (g:Nat→Bool) (b:Bool):(bls n g).set j [.bool b]=bls n fun a=>if a=j then b else g a:=by
 refine List.ext_getElem? fun i=>?_
 by_cases hi:i < n
 ·rw [Zar _ hi,List.getElem?_set]
  by_cases e:j=i
  ·subst e;simp [hi,bls]
  ·rw [if_neg e,Zar _ hi,if_neg (Ne.symm e)]
 ·rw [List.getElem?_eq_none (by simp [bls];omega),List.getElem?_eq_none (by simp [bls];omega)]
theorem Zsh (n:Nat) (b:Bool):List.replicate n [AV.bool b]=bls n fun _=>b:=by
 refine List.ext_getElem? fun i=>?_
 by_cases hi:i < n
 ·rw [Zar _ hi];simp [hi]
 ·rw [List.getElem?_eq_none (by simp [bls];omega),List.getElem?_eq_none (by simp [bls];omega)]
theorem Zdc {n:Nat} {f g:Nat→Bool} (h:∀ j,j < n→f j=g j):bls n f=bls n g:=List.map_congr_left fun j hj=>by rw [h j (List.mem_range.1 hj)]
theorem ZaI {n d a:Nat} {loc:Nat→Nat} (h:a < n):(Wp n d loc)[a]? = some [if a < d then .own (loc a) n else .nils]:=by simp [Wp,h]
theorem Zev {n d a:Nat} {loc:Nat→Nat} (h:a < n):at? (Wp n d loc) (a:Int)=some [if a < d then .own (loc a) n else .nils]:=Z2 (ZaI h)
theorem Zba (n d:Nat) (loc:Nat→Nat):(Wp n d loc).length=n:=by simp [Wp]
theorem ZrR (n:Nat) (loc:Nat→Nat):List.replicate n [AV.nils]=Wp n 0 loc:=by
 refine List.ext_getElem? fun i=>?_
 by_cases hi:i < n
 ·rw [ZaI hi];simp [hi]
 ·rw [List.getElem?_eq_none (by simp;omega),List.getElem?_eq_none (by simp [Wp];omega)]
theorem Zsc (n d:Nat) (loc:Nat→Nat):(Wp n d loc).set d [.own (loc d) n]=Wp n (d+1) loc:=by
 refine List.ext_getElem? fun i=>?_
 by_cases hi:i < n
 ·rw [ZaI hi,List.getElem?_set]
  by_cases e:d=i
  ·subst e;simp [hi,Wp]
  ·rw [if_neg e,ZaI hi]
   by_cases h1:i < d
   ·rw [if_pos h1,if_pos (by omega)]
   ·rw [if_neg h1,if_neg (by omega)]
 ·rw [List.getElem?_eq_none (by simp [Wp];omega),List.getElem?_eq_none (by simp [Wp];omega)]
structure MatH (x:List Tbl) (h:Zd) (n d:Nat) (loc:Nat→Nat) (r:Mx):Prop where
 src:h[0]? = some (.cells [.rows (x.map Za)])
 out:h[1]? = some (.rows 1 (Wp n d loc) true)
 row:∀ a,a < d→h[loc a]? = some (.rows 1 (bls n (r a)) true)
 inj:∀ a b,a < d→b < d→loc a=loc b→a=b
 gt:∀ a,a < d→1 < loc a
theorem MatH.lt {x:List Tbl} {h:Zd} {n d:Nat} {loc:Nat→Nat} {r:Mx} (m:MatH x h n d loc r) {a:Nat} (ha:a < d):loc a < h.length:=(List.getElem?_eq_some_iff.1 (m.row a ha)).1
theorem MatH.congr {x:List Tbl} {h:Zd} {n d:Nat} {loc:Nat→Nat} {r s:Mx} (m:MatH x h n d loc r) (e:∀ a b,a < d→b < n→r a b=s a b):MatH x h n d loc s :=
 ⟨m.src,m.out,fun a ha=>by rw [m.row a ha,Zdc fun j hj=>e a j ha hj],m.inj,m.gt⟩
theorem MatH.set {x:List Tbl} {h:Zd} {n d:Nat} {loc:Nat→Nat} {r:Mx} (m:MatH x h n d loc r) {i j:Nat} (hi:i < d) (b:Bool) :
  MatH x (h.set (loc i) (.rows 1 ((bls n (r i)).set j [.bool b]) true)) n d loc fun a c=>if a=i∧c=j then b else r a c:=by
 have g:=m.gt i hi
 refine ⟨?_,?_,?_,m.inj,m.gt⟩
 ·rw [List.getElem?_set_ne (by omega)];exact m.src
 ·rw [List.getElem?_set_ne (by omega)];exact m.out
 ·intro a ha
  by_cases e:a=i
  ·subst e
   rw [List.getElem?_set_self (m.lt hi),Zg6]
   congr 2
   exact Zdc fun c _=>by simp
  ·rw [List.getElem?_set_ne (fun he=>e (m.inj i a hi ha he).symm),m.row a ha]
   congr 2
   exact Zdc fun c _=>by simp [e]
theorem MatH.more {x:List Tbl} {h:Zd} {n d:Nat} {loc:Nat→Nat} {r:Mx} (m:MatH x h n d loc r) (g:Zd):MatH x (h++g) n d loc r:=by
 have l0:=(List.getElem?_eq_some_iff.1 m.out).1
 refine ⟨?_,?_,?_,m.inj,m.gt⟩
 ·rw [List.getElem?_append_left (by omega)];exact m.src
 ·rw [List.getElem?_append_left (by omega)];exact m.out
 ·intro a ha
  rw [List.getElem?_append_left (m.lt ha)];exact m.row a ha
theorem ZIf (h:Zd) (n:Nat) (hn:n≤1000000):Yg Tryz.prog 130 h (.int .i64 (n:Int)) (.int .i64 (n:Int))=some (.own h.length n,h++[.rows 1 (List.replicate n [.nils]) true]):=by
 have e:es Tryz.prog 130=some (1,24):=rfl
 have e2:Wc Tryz.prog 130=some .nils:=rfl
 unfold Yg
 simp only [if_true,e,e2,Zdj,Zau,Int.toNat_natCast]
 rw [if_pos ⟨by omega,by unfold Zg;omega⟩]
 rfl
theorem ZGo (h:Zd) (n:Nat) (hn:n≤1000000):Yg Tryz.prog 132 h (.int .i64 (n:Int)) (.int .i64 (n:Int))=some (.own h.length n,h++[.rows 1 (bls n fun _=>false) true]):=by
 have e:es Tryz.prog 132=some (1,1):=rfl
 have e2:Wc Tryz.prog 132=some (.bool false):=rfl
 unfold Yg
 simp only [if_true,e,e2,Zdj,Zau,Int.toNat_natCast]
 rw [if_pos ⟨by omega,by unfold Zg;omega⟩,←Zsh]
 rfl
theorem Zdv (n:Nat) (g:Nat→Bool):ZL (bls n g)=[]:=by
 unfold bls
 induction List.range n with
 | nil=>rfl
 | cons a l ih=>simp [ZL,Zk,Zm,ih]
theorem ZlG {x:List Tbl} {h:Zd} {n:Nat} {loc:Nat→Nat} {r:Mx} (m:MatH x h n n loc r):ZbZ false 0 h (Wp n n loc)=some ((List.range n).map fun a=>[.rows (bls n (r a))]):=by
 have one:∀ a,a < n→Z7 (Zc4 false 0 h) false 0 h [if a < n then .own (loc a) n else .nils]=some [.rows (bls n (r a))]:=fun a ha=>by
  rw [if_pos ha]
  simp only [Z7,Yf,m.row a ha,Zbd,Nat.zero_le,true_or,and_self,if_true,Zc4,Xu,Zdv]
 have all:∀ l:List Nat,(∀ a∈l,a < n)→ZZ (Z7 (Zc4 false 0 h) false 0 h) (l.map fun a=>[if a < n then AV.own (loc a) n else .nils])=some (l.map fun a=>[.rows (bls n (r a))]):=by
  intro l
  induction l with
  | nil=>intro _;rfl
  | cons a l ih =>
   intro hl
   simp only [List.map_cons,ZZ]
   rw [one a (hl a (by simp)),ih fun b hb=>hl b (by simp [hb])]
   simp [Zk,Zm,Zl,ZB]
 have hr:=all (List.range n) fun a ha=>List.mem_range.1 ha
 unfold ZbZ Xu
 split
 ·rename_i h0
  cases n with
  | zero=>rfl
  | succ n =>
   exfalso
   rw [Wp,List.range_succ_eq_map] at h0
   simp [ZL,Zk,Zm] at h0
 ·exact hr
theorem ZoX (k:Nat) (r:Mx) (i n a b:Nat) (hb:b < n):WK k r i n a b=WK k r (i+1) 0 a b:=by
 unfold WK
 by_cases h:a < i∨a=i∧b < n
 ·rw [if_pos h,if_pos (by omega)]
 ·rw [if_neg h,if_neg (by omega)]
theorem ZpE (k:Nat) (r:Mx):WK k r 0 0=r:=by
 funext a b
 unfold WK
 rw [if_neg (by omega)]
theorem Zr2 (k:Nat) (r:Mx) (n a b:Nat) (ha:a < n):WK k r n 0 a b=QN k r a b:=by
 unfold WK
 rw [if_pos (by omega)]
theorem Ze1 {m:Nat}:∀ {l:List Nat},(∀ x∈l,x < m)→Z6 m l=true
 | [],_=>rfl
 | a::l,h=>by
  rw [Zle]
  exact ⟨h a (by simp),Ze1 fun x hx=>h x (by simp [hx])⟩
theorem Zlw {m i:Nat} {h:Zd} {b:Blk} (hc:∀ l∈ZP h,l < m) (hb:∀ l∈Xj b,l < m):∀ l∈ZP (h.set i b),l < m:=by
 intro l hl
 obtain ⟨j,k,hj,hk⟩:=Zbp hl
 rw [List.getElem?_set] at hj
 split at hj
 ·split at hj
  ·obtain rfl:=Option.some.inj hj
   exact hb l hk
  ·simp at hj
 ·exact hc l (YP hj l hk)
theorem Zps {m n:Nat} {g:Nat→Bool}:∀ l∈Xj (.rows 1 (bls n g) true),l < m:=by
 intro l hl
 simp only [Xj,Zdv] at hl
 simp at hl
def Za4 (r:Mx) (i:Nat) (g:Nat→Bool):Mx:=fun a b=>if a=i then g b else r a b
theorem ZpB (x:List Tbl) (r:Mx) (i c:Nat) (l:List Fgn) (f:Fgn) (hf:l[c]? = some f) (a b:Nat) :
  (if a=i∧b=toN x f then true else Za4 r i (fun b=>((l.take c).map (toN x)).contains b) a b)=Za4 r i (fun b=>((l.take (c+1)).map (toN x)).contains b) a b:=by
 have e:l.take (c+1)=l.take c++[f]:=by rw [List.take_add_one,hf];rfl
 unfold Za4
 rw [e]
 by_cases h:a=i
 ·rw [if_pos h,if_pos h,Bool.eq_iff_iff]
  simp only [List.map_append,List.map_cons,List.map_nil,List.contains_iff_mem,List.mem_append,List.mem_singleton]
  by_cases h2:b=toN x f
  ·rw [if_pos ⟨h,h2⟩];simp [h2]
  ·rw [if_neg (fun e=>h2 e.2)]
   simp [h2]
 ·rw [if_neg h,if_neg h,if_neg (fun e=>h e.1)]
abbrev Ws (a:Nat):Nat:=3+2*a
theorem MatH.grow {x:List Tbl} {h:Zd} {n d:Nat} {r:Mx} (m:MatH x h n d Ws r) (hm:h.length=2+2*d) (c:Blk) :
  MatH x (h.set 1 (.rows 1 (Wp n (d+1) Ws) true)++[c]++[.rows 1 (bls n fun _=>false) true]) n (d+1) Ws (Za4 r d fun _=>false):=by
 refine ⟨?_,?_,?_,fun a b _ _ e=>by simp only [Ws] at e;omega,fun a _=>by simp only [Ws];omega⟩
 ·rw [List.append_assoc,List.getElem?_append_left (by rw [List.length_set];omega),List.getElem?_set_ne (by omega)];exact m.src
 ·rw [List.append_assoc,List.getElem?_append_left (by rw [List.length_set];omega),List.getElem?_set_self (by omega)]
 ·intro a ha
  by_cases e:a=d
  ·subst e
   rw [List.getElem?_append_right (by simp only [List.length_append,List.length_set,List.length_singleton,Ws];omega)]
   have:Ws a - (h.set 1 (.rows 1 (Wp n (a+1) Ws) true)++[c]).length=0:=by simp only [List.length_append,List.length_set,List.length_singleton,Ws];omega
   rw [this]
   unfold Za4
   simp
  ·rw [List.append_assoc,List.getElem?_append_left (by rw [List.length_set];simp only [Ws];omega),List.getElem?_set_ne (by simp only [Ws];omega),m.row a (by omega)]
   have e2:Za4 r d (fun _=>false) a=r a:=by
    funext j
    unfold Za4
    rw [if_neg e]
   rw [e2]
theorem Zo7 {x:List Tbl} {h:Zd} {n d:Nat} {loc:Nat→Nat} {r:Mx} (m:MatH x h n d loc r) (hd:0 < d) (hn:d≤n):Z6 2 (ZP (List.take 2 h))=false:=by
 cases hu:Z6 2 (ZP (List.take 2 h)) with
 | false=>rfl
 | true =>
  exfalso
  have h1:(List.take 2 h)[1]? = some (.rows 1 (Wp n d loc) true):=by rw [List.getElem?_take_of_lt (by omega)];exact m.out
  have h2:loc 0∈Xj (.rows 1 (Wp n d loc) true):=by
   simp only [Xj]
   obtain ⟨n,rfl⟩:∃ k,n=k+1:=⟨n - 1,by omega⟩
   rw [Wp,List.range_succ_eq_map]
   simp [ZL,Zk,Zm,hd]
  have:=Yo hu _ (YP h1 _ h2)
  have:=m.gt 0 hd
  omega
theorem Zlh {m:Nat} {h g:Zd} (hc:∀ l∈ZP h,l < m) (hg:∀ l∈ZP g,l < m):∀ l∈ZP (h++g),l < m:=by
 intro l hl
 obtain ⟨j,k,hj,hk⟩:=Zbp hl
 rw [List.getElem?_append] at hj
 split at hj
 ·exact hc l (YP hj l hk)
 ·exact hg l (YP hj l hk)
theorem ZqY {m n d:Nat} {loc:Nat→Nat} (h:∀ a,a < d→loc a < m):∀ l∈Xj (.rows 1 (Wp n d loc) true),l < m:=by
 simp only [Xj,Wp]
 induction List.range n with
 | nil=>intro l hl;simp [ZL] at hl
 | cons a r ih =>
  intro l hl
  simp only [List.map_cons,ZL,List.mem_append] at hl
  rcases hl with hl | hl
  ·by_cases e:a < d
   ·rw [if_pos e] at hl
    simp [Zk,Zm] at hl
    rw [hl];exact h a e
   ·rw [if_neg e] at hl
    simp [Zk,Zm] at hl
  ·exact ih l hl
theorem ZoD:∀ t:Tbl,Zk (Za t)=[]:=fun _=>rfl
def ZlQ (x:List Tbl):List (List AV):=(List.range x.length).map fun a=>[.rows (bls x.length (YL x a))]
abbrev Ze2 (x:List Tbl):AV:=.rows (ZlQ x)
theorem QL {x:List Tbl} {i:Nat} (h:i < x.length):at? (ZlQ x) (i:Int)=some [.rows (bls x.length (YL x i))]:=Z2 (by simp [ZlQ,h])
theorem QE {x:List Tbl} {i j:Nat} (h:j < x.length):at? (bls x.length (YL x i)) (j:Int)=some [.bool (YL x i j)]:=Zb9 _ h
theorem Ztv (x:List Tbl) (n i k m:Nat) (hn:n≤1000000) (hi:i < n) (hk:k < n) (loc:Nat→Nat) (r:Mx):∀ (q j:Nat) (h:Zd),n=j+q→h.length=m→MatH x h n n loc (WK k r i j) →
  ∃ h',MatH x h' n n loc (WK k r i n)∧h'.length=m∧∀ (ks:List It) (Bo:Code) (jj:Int),Zf Tryz.f63 8 Bo→jj=(j:Int) →
  RL K (.run 63 0 (.code Bo::.lp Bo (some ([3,4,9,10,48,49,52,53,56,57],[])) m::.blk 8 m::ks) [(3,I (n:Int)),(4,.own 1 n),(9,I (k:Int)),(10,I (i:Int)),(48,I (n:Int)),(49,I (k:Int)),(52,I (n:Int)),(53,I (i:Int)),(56,I (n:Int)),(57,I jj)] h) =
  R K (.run 63 0 ks [(3,I (n:Int)),(4,.own 1 n),(9,I (k:Int)),(48,I (n:Int)),(49,I (k:Int)),(52,I (n:Int)),(53,I (i:Int))] h')
 | 0,j,h,hq,hm,mh=>by
  have d:¬(j:Int) < (n:Int):=by omega
  have tk:List.take m h=h:=List.take_of_length_le (by omega)
  have ej:j=n:=by omega
  refine ⟨h,ej▸mh,hm,fun ks Bo jj hB hj=>?_⟩
  subst hj
  unfold Zf at hB
  simp -implicitDefEqProofs only [go_sem,simprocAttr,Tryz.f63,Zb] at hB
  subst hB
  rw [Zc]
  simp -implicitDefEqProofs only [go_sem,simprocAttr,d,tk]
 | q+1,j,h,hq,hm,mh=>by
  have hjn:j < n:=by omega
  have d:(j:Int) < (n:Int):=by omega
  have h7:ZC .i64 ((j:Int)+1)=((j+1:Nat):Int):=Zs (n:=n) (by omega) (by omega)
  have o0:=mh.out
  have oi:=ZaI (n:=n) (d:=n) (loc:=loc) hi
  have ok:=ZaI (n:=n) (d:=n) (loc:=loc) hk
  have oi2:=Zev (n:=n) (d:=n) (loc:=loc) hi
  have ok2:=Zev (n:=n) (d:=n) (loc:=loc) hk
  rw [if_pos hi] at oi oi2
  rw [if_pos hk] at ok ok2
  have ri:=mh.row i hi
  have rk:=mh.row k hk
  have bij:=Zar (WK k r i j i) hjn
  have bij2:=Zb9 (WK k r i j i) hjn
  have bik:=Zar (WK k r i j i) hk
  have bik2:=Zb9 (WK k r i j i) hk
  have bkj:=Zar (WK k r i j k) hjn
  have bkj2:=Zb9 (WK k r i j k) hjn
  rw [ZsJ] at bij bij2
  rw [ZrS] at bik bik2
  rw [ZsA] at bkj bkj2
  obtain ⟨h',p1,p2,ih⟩:=Ztv x n i k m hn hi hk loc r q (j+1) (h.set (loc i) (.rows 1 ((bls n (WK k r i j i)).set j [.bool (QN k r i j)]) true)) (by omega) (by rw [List.length_set];exact hm) ((mh.set hi _).congr fun a b _ _=>(ZpI k r i j a b).symm)
  refine ⟨h',p1,p2,fun ks Bo jj hB hj=>?_⟩
  subst hj
  have ih:=ih ks Bo _ hB rfl
  have tk:∀ b,List.take m (h.set (loc i) b)=h.set (loc i) b:=fun b=>List.take_of_length_le (by rw [List.length_set];omega)
  unfold QN at ih
  generalize r i j=b1 at *
  generalize r i k=b2 at *
  generalize r k j=b3 at *
  have lRi:=Zbd n (WK k r i j i)
  generalize bls n (WK k r i j i)=Ri at *
  have sp:∀ b c:Bool,splice [AV.bool b] 0 [.bool c]=[.bool c]:=fun _ _=>rfl
  cases b1 with
  | true =>
   unfold Zf at hB
   simp -implicitDefEqProofs only [go_sem,simprocAttr,Tryz.f63,Zb] at hB
   subst hB
   rw [Zc]
   simp -implicitDefEqProofs only [go_sem,simprocAttr,d,h7,o0,oi,ok,oi2,ok2,ri,rk,bij,bij2,bik,bik2,bkj,bkj2,lRi,sp,tk,Int.toNat_natCast,Zbd,Zba]
   exact ih
  | false =>
   cases b2 with
   | true =>
    unfold Zf at hB
    simp -implicitDefEqProofs only [go_sem,simprocAttr,Tryz.f63,Zb] at hB
    subst hB
    rw [Zc]
    simp -implicitDefEqProofs only [go_sem,simprocAttr,d,h7,o0,oi,ok,oi2,ok2,ri,rk,bij,bij2,bik,bik2,bkj,bkj2,lRi,sp,tk,Int.toNat_natCast,Zbd,Zba]
    cases b3<;>exact ih
   | false =>
    unfold Zf at hB
    simp -implicitDefEqProofs only [go_sem,simprocAttr,Tryz.f63,Zb] at hB
    subst hB
    rw [Zc]
    simp -implicitDefEqProofs only [go_sem,simprocAttr,d,h7,o0,oi,ok,oi2,ok2,ri,rk,bij,bij2,bik,bik2,bkj,bkj2,lRi,sp,tk,Int.toNat_natCast,Zbd,Zba]
    exact ih
theorem Ztz (x:List Tbl) (n k m:Nat) (hn:n≤1000000) (hk:k < n) (loc:Nat→Nat) (r:Mx):∀ (q i:Nat) (h:Zd),n=i+q→h.length=m→MatH x h n n loc (WK k r i 0) →
  ∃ h',MatH x h' n n loc (WK k r n 0)∧h'.length=m∧∀ (ks:List It) (Bo:Code) (ii:Int),Zf Tryz.f63 6 Bo→ii=(i:Int) →
  RL K (.run 63 0 (.code Bo::.lp Bo (some ([3,4,9,48,49,52,53],[])) m::.blk 6 m::ks) [(3,I (n:Int)),(4,.own 1 n),(9,I (k:Int)),(48,I (n:Int)),(49,I (k:Int)),(52,I (n:Int)),(53,I ii)] h) =
  R K (.run 63 0 ks [(3,I (n:Int)),(4,.own 1 n),(48,I (n:Int)),(49,I (k:Int))] h')
 | 0,i,h,hq,hm,mh=>by
  have d:¬(i:Int) < (n:Int):=by omega
  have tk:List.take m h=h:=List.take_of_length_le (by omega)
  have ei:i=n:=by omega
  refine ⟨h,ei▸mh,hm,fun ks Bo ii hB hi=>?_⟩
  subst hi
  unfold Zf at hB
  simp -implicitDefEqProofs only [go_sem,simprocAttr,Tryz.f63,Zb] at hB
  subst hB
  rw [Zc]
  simp -implicitDefEqProofs only [go_sem,simprocAttr,d,tk]
 | q+1,i,h,hq,hm,mh=>by
  have hin:i < n:=by omega
  have d:(i:Int) < (n:Int):=by omega
  have h7:ZC .i64 ((i:Int)+1)=((i+1:Nat):Int):=Zs (n:=n) (by omega) (by omega)
  obtain ⟨h1,p1,p2,e1⟩:=Ztv x n i k m hn hin hk loc r n 0 h (by omega) hm mh
  obtain ⟨h',p3,p4,ih⟩:=Ztz x n k m hn hk loc r q (i+1) h1 (by omega) p2 (p1.congr fun a b _ hb=>ZoX k r i n a b hb)
  refine ⟨h',p3,p4,fun ks Bo ii hB hi=>?_⟩
  subst hi
  have ih:=ih ks Bo _ hB rfl
  have tk:List.take m h1=h1:=List.take_of_length_le (by omega)
  have tk0:List.take m h=h:=List.take_of_length_le (by omega)
  unfold Zf at hB
  simp -implicitDefEqProofs only [go_sem,simprocAttr,Tryz.f63,Zb] at hB
  subst hB
  rw [Zc]
  simp -implicitDefEqProofs only [go_sem,simprocAttr,d,h7,hm,tk0]
  rw [e1 _ _ 0 ?_ rfl]
  ·simp -implicitDefEqProofs only [go_sem,simprocAttr,d,h7,tk]
   exact ih
  ·rfl
theorem ZtI (x:List Tbl) (n m:Nat) (hn:n≤1000000) (loc:Nat→Nat) (r:Mx):∀ (q k:Nat) (h:Zd),n=k+q→h.length=m→MatH x h n n loc (Ze8 r k) →
  ∃ h',MatH x h' n n loc (Ze8 r n)∧h'.length=m∧∀ (ks:List It) (Bo:Code) (kk:Int),Zf Tryz.f63 4 Bo→kk=(k:Int) →
  RL K (.run 63 0 (.code Bo::.lp Bo (some ([3,4,48,49],[])) m::.blk 4 m::ks) [(3,I (n:Int)),(4,.own 1 n),(48,I (n:Int)),(49,I kk)] h) =
  R K (.run 63 0 ks [(4,.own 1 n)] h')
 | 0,k,h,hq,hm,mh=>by
  have d:¬(k:Int) < (n:Int):=by omega
  have tk:List.take m h=h:=List.take_of_length_le (by omega)
  have ek:k=n:=by omega
  refine ⟨h,ek▸mh,hm,fun ks Bo kk hB hk=>?_⟩
  subst hk
  unfold Zf at hB
  simp -implicitDefEqProofs only [go_sem,simprocAttr,Tryz.f63,Zb] at hB
  subst hB
  rw [Zc]
  simp -implicitDefEqProofs only [go_sem,simprocAttr,d,tk]
 | q+1,k,h,hq,hm,mh=>by
  have hkn:k < n:=by omega
  have d:(k:Int) < (n:Int):=by omega
  have h7:ZC .i64 ((k:Int)+1)=((k+1:Nat):Int):=Zs (n:=n) (by omega) (by omega)
  obtain ⟨h1,p1,p2,e1⟩:=Ztz x n k m hn hkn loc (Ze8 r k) n 0 h (by omega) hm (by rw [ZpE];exact mh)
  obtain ⟨h',p3,p4,ih⟩:=ZtI x n m hn loc r q (k+1) h1 (by omega) p2 (p1.congr fun a b ha _=>Zr2 k _ n a b ha)
  refine ⟨h',p3,p4,fun ks Bo kk hB hk=>?_⟩
  subst hk
  have ih:=ih ks Bo _ hB rfl
  have tk:List.take m h1=h1:=List.take_of_length_le (by omega)
  have tk0:List.take m h=h:=List.take_of_length_le (by omega)
  unfold Zf at hB
  simp -implicitDefEqProofs only [go_sem,simprocAttr,Tryz.f63,Zb] at hB
  subst hB
  rw [Zc]
  simp -implicitDefEqProofs only [go_sem,simprocAttr,d,h7,hm,tk0]
  rw [e1 _ _ 0 ?_ rfl]
  ·simp -implicitDefEqProofs only [go_sem,simprocAttr,d,h7,tk]
   exact ih
  ·rfl
theorem ZtS (x:List Tbl) (hx:FitX x) (hR:RightX x) (i m:Nat) (hi:i < x.length) (loc:Nat→Nat) (t:Tbl) (ht:t∈x) (r:Mx):∀ (q c:Nat) (h:Zd),t.fgn.length=c+q→h.length=m→(∀ l∈ZP h,l < m)→MatH x h x.length (i+1) loc (Za4 r i fun b=>((t.fgn.take c).map (toN x)).contains b) →
  ∃ h',MatH x h' x.length (i+1) loc (Za4 r i fun b=>(t.fgn.map (toN x)).contains b)∧h'.length=m∧(∀ l∈ZP h',l < m)∧∀ (ks:List It) (Bo:Code) (cc:Int),Zf Tryz.f63 2 Bo→cc=(c:Int) →
  RL K (.run 63 0 (.code Bo::.lp Bo (some ([1,3,4,5,18,19,20,31,32,33],[])) m::.blk 2 m::ks) [(1,.ptr 0 0),(3,I (x.length:Int)),(4,.own 1 x.length),(5,I (i:Int)),(18,.rows (x.map Za)),(19,I (x.length:Int)),(20,I (i:Int)),(31,.rows (t.fgn.map Zt)),(32,I (t.fgn.length:Int)),(33,I cc)] h) =
  R K (.run 63 0 ks [(1,.ptr 0 0),(3,I (x.length:Int)),(4,.own 1 x.length),(18,.rows (x.map Za)),(19,I (x.length:Int)),(20,I (i:Int))] h')
 | 0,c,h,hq,hm,hc,mh=>by
  have d:¬(c:Int) < (t.fgn.length:Int):=by omega
  have tk:List.take m h=h:=List.take_of_length_le (by omega)
  refine ⟨h,by rw [List.take_of_length_le (by omega)] at mh;exact mh,hm,hc,fun ks Bo cc hB hcc=>?_⟩
  subst hcc
  unfold Zf at hB
  simp -implicitDefEqProofs only [go_sem,simprocAttr,Tryz.f63,Zb] at hB
  subst hB
  rw [Zc]
  simp -implicitDefEqProofs only [go_sem,simprocAttr,d,tk]
 | q+1,c,h,hq,hm,hc,mh=>by
  have hT:=hx.tbl t ht
  have hlen:=hT.fgn
  have d:(c:Int) < (t.fgn.length:Int):=by omega
  have h7:ZC .i64 ((c:Int)+1)=((c+1:Nat):Int):=Zs (n:=t.fgn.length) (by omega) (by omega)
  obtain ⟨f,hf⟩:=Ze (l:=t.fgn) (i:=c) (by omega)
  have hg:=Xz hf
  obtain ⟨n1,n2,n3⟩:=Zhj hR ht (List.mem_of_getElem? hf)
  have g1:=Yu x f.tb hx.len
  rw [n3] at g1
  have ml:=mh.lt (show i < i+1 by omega)
  have l1:=(List.getElem?_eq_some_iff.1 mh.out).1
  have gt:=mh.gt i (by omega)
  have oi:=ZaI (n:=x.length) (d:=i+1) (loc:=loc) hi
  have oi2:=Zev (n:=x.length) (d:=i+1) (loc:=loc) hi
  rw [if_pos (by omega)] at oi oi2
  have hrow:=mh.row i (by omega)
  obtain ⟨h',p1,p2,p3,ih⟩:=ZtS x hx hR i m hi loc t ht r q (c+1) (h.set (loc i) (.rows 1 ((bls x.length (Za4 r i (fun b=>((t.fgn.take c).map (toN x)).contains b) i)).set (toN x f) [.bool true]) true)) (by omega) (by rw [List.length_set];exact hm) (Zlw hc (by rw [Zg6];exact Zps)) ((mh.set (by omega) true).congr fun a b _ _=>ZpB x r i c t.fgn f hf a b)
  refine ⟨h',p1,p2,p3,fun ks Bo cc hB hcc=>?_⟩
  subst hcc
  have ih:=ih ks Bo _ hB rfl
  have bf:=Zar (n:=x.length) (Za4 r i (fun b=>((t.fgn.take c).map (toN x)).contains b) i) n1
  have bf2:=Zb9 (n:=x.length) (Za4 r i (fun b=>((t.fgn.take c).map (toN x)).contains b) i) n1
  have cl:Z6 m (ZP (h.set (loc i) (.rows 1 ((bls x.length (Za4 r i (fun b=>((t.fgn.take c).map (toN x)).contains b) i)).set (toN x f) [.bool true]) true)))=true:=Ze1 (Zlw hc (by rw [Zg6];exact Zps))
  have lRi:=Zbd x.length (Za4 r i (fun b=>((t.fgn.take c).map (toN x)).contains b) i)
  generalize Za4 r i (fun b=>((t.fgn.take c).map (toN x)).contains b) i (toN x f)=b0 at *
  generalize bls x.length (Za4 r i (fun b=>((t.fgn.take c).map (toN x)).contains b) i)=Ri at *
  have a0:∀ c,(h++[c])[0]? = some (.cells [.rows (x.map Za)]):=fun c=>by rw [List.getElem?_append_left (by omega)];exact mh.src
  have a1:∀ c,(h++[c])[1]? = some (.rows 1 (Wp x.length (i+1) loc) true):=fun c=>by rw [List.getElem?_append_left (by omega)];exact mh.out
  have al:∀ c,(h++[c])[loc i]? = some (.rows 1 Ri true):=fun c=>by rw [List.getElem?_append_left (by omega)];exact hrow
  have am:∀ c,(h++[c])[m]? = some c:=fun c=>by rw [←hm];simp
  have sm:∀ c e,(h++[c]).set m e=h++[e]:=fun c e=>by rw [←hm];simp
  have sl:∀ c e,(h++[c]).set (loc i) e=h.set (loc i) e++[c]:=fun c e=>List.set_append_left _ _ (by omega)
  have tk:∀ c e,List.take m (h.set (loc i) e++[c])=h.set (loc i) e:=fun c e=>by rw [List.take_append_of_le_length (by rw [List.length_set];omega),List.take_of_length_le (by rw [List.length_set];omega)]
  have sp:splice [AV.bool b0] 0 [.bool true]=[.bool true]:=rfl
  have u1:(0 < m)=True:=eq_true (by omega)
  have u2:(1 < m)=True:=eq_true (by omega)
  simp only [Zt] at hg
  unfold Zf at hB
  simp -implicitDefEqProofs only [go_sem,simprocAttr,Tryz.f63,Zb] at hB
  subst hB
  rw [Zc]
  simp -implicitDefEqProofs only [go_sem,simprocAttr,Zt,d,h7,hm,hg,g1,a0,a1,al,am,sm,sl,tk,sp,oi,oi2,bf,bf2,lRi,cl,u1,u2,Int.toNat_natCast,Zba]
  exact ih
theorem Ztx (x:List Tbl) (hx:FitX x) (hR:RightX x):∀ (q d:Nat) (h:Zd),x.length=d+q→h.length=2+2*d→(∀ l∈ZP h,l < h.length)→MatH x h x.length d Ws (Zd1 x) →
  ∃ h',MatH x h' x.length x.length Ws (Zd1 x)∧h'.length=2+2*x.length∧∀ (ks:List It) (Bo:Code) (dd:Int),Zf Tryz.f63 0 Bo→dd=(d:Int) →
  RL K (.run 63 0 (.code Bo::.lp Bo (some ([1,3,4,18,19,20],[])) 2::.blk 0 2::ks) [(1,.ptr 0 0),(3,I (x.length:Int)),(4,.own 1 x.length),(18,.rows (x.map Za)),(19,I (x.length:Int)),(20,I dd)] h) =
  R K (.run 63 0 ks [(3,I (x.length:Int)),(4,.own 1 x.length)] h')
 | 0,d,h,hq,hm,hc,mh=>by
  have dd0:¬(d:Int) < (x.length:Int):=by omega
  have ed:d=x.length:=by omega
  refine ⟨h,ed▸mh,by omega,fun ks Bo dd hB hd=>?_⟩
  subst hd
  by_cases e0:d=0
  ·have tk:List.take 2 h=h:=List.take_of_length_le (by omega)
   unfold Zf at hB
   simp -implicitDefEqProofs only [go_sem,simprocAttr,Tryz.f63,Zb] at hB
   subst hB
   rw [Zc]
   simp -implicitDefEqProofs only [go_sem,simprocAttr,dd0,tk]
  ·have nc:=Zo7 mh (by omega) (by omega)
   unfold Zf at hB
   simp -implicitDefEqProofs only [go_sem,simprocAttr,Tryz.f63,Zb] at hB
   subst hB
   rw [Zc]
   simp -implicitDefEqProofs only [go_sem,simprocAttr,dd0,nc]
 | q+1,d,h,hq,hm,hc,mh=>by
  have hdn:d < x.length:=by omega
  have hlen:=hx.len
  have dd1:(d:Int) < (x.length:Int):=by omega
  have h7:ZC .i64 ((d:Int)+1)=((d+1:Nat):Int):=Zs (n:=x.length) (by omega) (by omega)
  obtain ⟨t,ht⟩:=Ze (l:=x) (i:=d) hdn
  have hg:=ZG ht
  have hmem:=List.mem_of_getElem? ht
  have g0:=mh.grow hm (.cells (Za t))
  have hc2:∀ l∈ZP (h.set 1 (.rows 1 (Wp x.length (d+1) Ws) true)++[.cells (Za t)]++[.rows 1 (bls x.length fun _=>false) true]),l < 2+2*d+2:=by
   refine Zlh (Zlh (Zlw (fun l hl=>by have:=hc l hl;omega) (ZqY fun a ha=>by simp only [Ws];omega)) ?_) ?_
   ·intro l hl
    simp [ZP,Xj,ZoD] at hl
   ·intro l hl
    simp [ZP,Xj,Zdv] at hl
  obtain ⟨h1,p1,p2,p3,e1⟩:=ZtS x hx hR d (2+2*d+2) hdn Ws t hmem (Zd1 x) t.fgn.length 0 _ (by omega) (by simp only [List.length_append,List.length_set,List.length_singleton];omega) hc2 (g0.congr fun a b _ _=>rfl)
  obtain ⟨h',q1,q2,ih⟩:=Ztx x hx hR q (d+1) h1 (by omega) (by omega) (fun l hl=>by have:=p3 l hl;omega) (p1.congr fun a b _ _=>by
   unfold Za4
   by_cases e:a=d
   ·rw [if_pos e,e];unfold Zd1;rw [Zqn ht]
   ·rw [if_neg e])
  refine ⟨h',q1,q2,fun ks Bo dd hB hd=>?_⟩
  subst hd
  have ih:=ih ks Bo _ hB rfl
  have nc:=Zo7 p1 (by omega) (by omega)
  have mk:=fun h=>ZGo h x.length hlen
  have la:∀ c,(h++[c]).length=2+2*d+1:=fun c=>by simp [hm]
  have l1:=(List.getElem?_eq_some_iff.1 mh.out).1
  have b1:∀ c e,(h++[c]++[e])[1]? = some (.rows 1 (Wp x.length d Ws) true):=fun c e=>by rw [List.append_assoc,List.getElem?_append_left (by omega)];exact mh.out
  have oi:=ZaI (n:=x.length) (d:=d) (loc:=Ws) hdn
  have oi2:=Zev (n:=x.length) (d:=d) (loc:=Ws) hdn
  rw [if_neg (by omega)] at oi oi2
  have os:(Wp x.length d Ws).set d [.own (2+2*d+1) x.length]=Wp x.length (d+1) Ws:=by
   rw [show 2+2*d+1=Ws d by simp only [Ws];omega]
   exact Zsc x.length d Ws
  have bn:∀ c e,(h++[c]++[e])[2+2*d+1]? = some e:=fun c e=>by
   rw [List.getElem?_append_right (by simp [hm])];simp [hm]
  have am:∀ c,(h++[c])[2+2*d]? = some c:=fun c=>by rw [←hm];simp
  have sm:∀ c e,(h++[c]).set (2+2*d) e=h++[e]:=fun c e=>by rw [←hm];simp
  have sb:∀ c e g,(h++[c]++[e]).set 1 g=h.set 1 g++[c]++[e]:=fun c e g=>by rw [List.append_assoc,List.set_append_left _ _ (by omega),List.append_assoc]
  have bm:∀ c e g,(h.set 1 g++[c]++[e])[2+2*d]? = some c:=fun c e g=>by
   rw [List.append_assoc,List.getElem?_append_right (by rw [List.length_set];omega),List.length_set,hm];simp
  have lb:∀ c e g,(h.set 1 g++[c]++[e]).length=2+2*d+2:=fun c e g=>by simp [hm]
  have u1:(0 < 2+2*d+2)=True:=eq_true (by omega)
  simp only [Za] at hg e1
  unfold Zf at hB
  simp -implicitDefEqProofs only [go_sem,simprocAttr,Tryz.f63,Zb] at hB
  subst hB
  rw [Zc]
  simp -implicitDefEqProofs only [go_sem,simprocAttr,Za,dd1,h7,hm,hg,mk,la,b1,oi,oi2,os,am,sm,sb,bm,bn,lb,nc,Int.toNat_natCast,Zba,List.length_map,List.drop_succ_cons,List.drop_nil,List.length_cons,List.length_nil,List.append_nil]
  rw [e1 _ _ 0 ?_ rfl]
  ·simp -implicitDefEqProofs only [go_sem,simprocAttr,h7,nc]
   exact ih
  ·rfl
theorem ZrZ (x:List Tbl) (hx:FitX x) (hR:RightX x):R K (.call 63 [WI x] [])=some (Ze2 x,[]):=by
 have hlen:=hx.len
 have mk:=fun h=>ZIf h x.length hlen
 have m0:MatH x [.cells [.rows (x.map Za)],.rows 1 (Wp x.length 0 Ws) true] x.length 0 Ws (Zd1 x):=⟨rfl,rfl,fun a ha=>absurd ha (by omega),fun a b ha=>absurd ha (by omega),fun a ha=>absurd ha (by omega)⟩
 have c0:∀ l∈ZP [Blk.cells [.rows (x.map Za)],.rows 1 (Wp x.length 0 Ws) true],l < 2:=by
  have:=Zlh (m:=2) (h:=[Blk.cells [.rows (x.map Za)]]) (g:=[.rows 1 (Wp x.length 0 Ws) true]) (fun l hl=>by simp [ZP,Xj,Zk,Zm] at hl) (fun l hl=>by
   simp only [ZP,List.append_nil] at hl
   exact ZqY (fun a ha=>absurd ha (by omega)) l hl)
  exact this
 obtain ⟨h1,p1,p2,e1⟩:=Ztx x hx hR x.length 0 _ (by omega) rfl c0 m0
 obtain ⟨h2,q1,q2,e2⟩:=ZtI x x.length (2+2*x.length) hlen Ws (Zd1 x) x.length 0 h1 (by omega) p2 p1
 have lv:=ZlG q1
 rw [ZbZ,Xu] at lv
 simp only [Zc4,ZkB] at lv
 have o1:=q1.out
 rw [←ZrR] at e1
 rw [ZsG]
 simp -implicitDefEqProofs only [go_sem,simprocAttr,Tryz.f63,List.length_map,mk]
 rw [e1 _ _ 0 ?_ rfl]
 ·simp -implicitDefEqProofs only [go_sem,simprocAttr,p2]
  rw [e2 _ _ 0 ?_ rfl]
  ·simp -implicitDefEqProofs only [go_sem,simprocAttr,o1,Zba,lv]
   rfl
  ·rfl
 ·rfl
def ZaO (x:List Tbl) (i:Nat) (o:List Nat) (f:Fgn):Bool:=!(toN x f==i)&&!o.contains (toN x f)&&!(YL x i (toN x f)&&YL x (toN x f) i)
theorem ZgR {x:List Tbl} {i:Nat} {t:Tbl} (h:x[i]? = some t) (o:List Nat):t.fgn.any (ZaO x i o)=Zcq (YL x) (toL x i) (fun j=>o.contains j) i:=by
 unfold Zcq
 rw [Zqn h,List.any_map]
 rfl
theorem ZsS {x:List Tbl} {i:Nat} {t:Tbl} (ht:x[i]? = some t) (o:List Nat):SLs (o.map (nmX x))++[[AV.str t.nm]]=SLs ((o++[i]).map (nmX x)):=by
 rw [ZeA,List.map_append,List.map_singleton,ZbT ht]
def ZnA (x:List Tbl):AV:=.rows (SLs ((Qu x x.length []).map (nmX x)))
def ZsZ (x:List Tbl):AV:=.rows (SLs ((JM x 0 x.length).map (nmX x)))
abbrev ooH (x:List Tbl) (v:AV) (ns:List (List UInt8)):Zd:=[.cells [.rows (x.map Za)],.cells [v],.cells [Ze2 x],.rows 1 (SLs ns) false]
theorem Zud (ns:List (List UInt8)) (s:List UInt8) (h:ns.contains s=false) (b:Bool):(ns++if b=true then [s] else []).contains s=b:=by
 cases b with
 | true =>
  rw [List.contains_iff_mem]
  simp
 | false=>simpa using h
theorem ZtJ (x:List Tbl) (hx:FitX x) (i:Nat) (hi:i < x.length) (t:Tbl) (ns:List (List UInt8)) (hns:ns.length≤100000) (hno:ns.contains t.nm=false) (ks:List It):∀ (q k:Nat) (b:Bool) (kk:Int) (Bo:Code),Zf Tryz.f25 2 Bo→kk=(k:Int)→x.length=k+q →
  RL K (.run 25 0 (.code Bo::.lp Bo (some ([1,2,3,4,5,6,14,15,16,23,24],[])) 5::.blk 2 5::ks) [(1,.ptr 0 0),(2,.ptr 1 0),(3,.own 3 (ns++if b=true then [t.nm] else []).length),(4,.ptr 2 0),(5,I (i:Int)),(6,.ptr 4 0),(14,.rows (x.map Za)),(15,I (x.length:Int)),(16,I (i:Int)),(23,I (x.length:Int)),(24,I kk)] (ooH x .nils (ns++if b=true then [t.nm] else [])++[.cells (Za t)])) =
  R K (.run 25 0 ks [(1,.ptr 0 0),(2,.ptr 1 0),(3,.own 3 (ns++if (b||ZbB (Qo x i) k q)=true then [t.nm] else []).length),(4,.ptr 2 0),(14,.rows (x.map Za)),(15,I (x.length:Int)),(16,I (i:Int))] (ooH x .nils (ns++if (b||ZbB (Qo x i) k q)=true then [t.nm] else [])++[.cells (Za t)]))
 | 0,k,b,kk,Bo,hB,hk,hq=>by
  subst hk
  have d:¬(k:Int) < (x.length:Int):=by omega
  simp only [ZbB,Bool.or_false]
  generalize (ns++if b=true then [t.nm] else [])=ms
  unfold Zf at hB
  simp -implicitDefEqProofs only [go_sem,simprocAttr,Tryz.f25,Zb] at hB
  subst hB
  rw [Zc]
  simp -implicitDefEqProofs only [go_sem,simprocAttr,ooH,Za,d]
 | q+1,k,b,kk,Bo,hB,hk,hq=>by
  subst hk
  have hB':=hB
  have hlen:=hx.len
  have d:(k:Int) < (x.length:Int):=by omega
  have h7:ZC .i64 ((k:Int)+1)=((k+1:Nat):Int):=Zs (n:=x.length) (by omega) (by omega)
  have g1:=QL hi
  have g2:=QL (x:=x) (show k < x.length by omega)
  have b1:=QE (x:=x) (i:=i) (show k < x.length by omega)
  have b2:=QE (x:=x) (i:=k) hi
  have e0:((k:Int)==(i:Int))=(i==k):=by rw [Bool.eq_iff_iff,beq_iff_eq,beq_iff_eq];omega
  have eN:(b||ZbB (Qo x i) k (q+1))=((b||Qo x i k)||ZbB (Qo x i) (k+1) q):=by simp only [ZbB,Bool.or_assoc]
  have ih:=ZtJ x hx i hi t ns hns hno ks q (k+1) (b||Qo x i k) _ Bo hB' rfl (by omega)
  have hlm:(ns++if b=true then [t.nm] else []).length≤1000000:=by rw [List.length_append];split<;>simp<;>omega
  have hcn:=Xx t.nm (ns++if b=true then [t.nm] else []) hlm
  rw [Zud ns t.nm hno b] at hcn
  have rm:(((ns++if b=true then [t.nm] else []).length+1)*17≤Zg)=True:=eq_true (by unfold Zg;omega)
  rw [eN]
  have cB:Qo x i k=(!(i==k)&&(YL x i k&&YL x k i)):=rfl
  rw [cB] at ih ⊢
  generalize ZbB (Qo x i) (k+1) q=z at *
  generalize YL x i k=u at *
  generalize YL x k i=v at *
  cases he:(i==k) with
  | true =>
   rw [he] at e0 ih
   simp only [Bool.not_true,Bool.false_and,Bool.or_false] at ih ⊢
   generalize (ns++if b=true then [t.nm] else [])=ms at *
   simp only [ooH,Za,List.cons_append,List.nil_append] at ih
   unfold Zf at hB
   simp -implicitDefEqProofs only [go_sem,simprocAttr,Tryz.f25,Zb] at hB
   subst hB
   rw [Zc]
   simp -implicitDefEqProofs only [go_sem,simprocAttr,ooH,Za,d,h7,e0,bne]
   rw [ih,List.length_append]
  | false =>
   rw [he] at e0 ih
   cases u with
   | false =>
    simp only [Bool.not_false,Bool.and_false,Bool.false_and,Bool.or_false] at ih ⊢
    generalize (ns++if b=true then [t.nm] else [])=ms at *
    simp only [ooH,Za,List.cons_append,List.nil_append] at ih
    unfold Zf at hB
    simp -implicitDefEqProofs only [go_sem,simprocAttr,Tryz.f25,Zb] at hB
    subst hB
    rw [Zc]
    simp -implicitDefEqProofs only [go_sem,simprocAttr,ooH,Za,d,h7,e0,bne,g1,g2,b1,b2]
    rw [ih,List.length_append]
   | true =>
    cases v with
    | false =>
     simp only [Bool.not_false,Bool.and_false,Bool.or_false] at ih ⊢
     generalize (ns++if b=true then [t.nm] else [])=ms at *
     simp only [ooH,Za,List.cons_append,List.nil_append] at ih
     unfold Zf at hB
     simp -implicitDefEqProofs only [go_sem,simprocAttr,Tryz.f25,Zb] at hB
     subst hB
     rw [Zc]
     simp -implicitDefEqProofs only [go_sem,simprocAttr,ooH,Za,d,h7,e0,bne,g1,g2,b1,b2]
     rw [ih,List.length_append]
    | true =>
     cases b with
     | true =>
      simp only [Bool.not_false,Bool.and_true,Bool.or_true,Bool.true_or,if_true] at ih hcn hlm rm ⊢
      generalize (ns++[t.nm])=ms at *
      simp only [ooH,Za,List.cons_append,List.nil_append] at ih
      unfold Zf at hB
      simp -implicitDefEqProofs only [go_sem,simprocAttr,Tryz.f25,Zb] at hB
      subst hB
      rw [Zc]
      simp -implicitDefEqProofs only [go_sem,simprocAttr,ooH,Za,d,h7,e0,bne,g1,g2,b1,b2,Zq,Yx,hcn]
      rw [ih]
     | false =>
      simp only [Bool.not_false,Bool.and_true,Bool.or_true,Bool.true_or,if_true,Bool.false_eq_true,if_false,List.append_nil] at ih hcn hlm rm ⊢
      simp only [ooH,Za,List.cons_append,List.nil_append,List.length_append,List.length_cons,List.length_nil,Nat.zero_add] at ih
      unfold Zf at hB
      simp -implicitDefEqProofs only [go_sem,simprocAttr,Tryz.f25,Zb] at hB
      subst hB
      rw [Zc]
      simp -implicitDefEqProofs only [go_sem,simprocAttr,ooH,Za,d,h7,e0,bne,g1,g2,b1,b2,Zq,Yx,hcn,rm,ZeA,List.length_append,List.length_cons,List.length_nil,Nat.zero_add]
      rw [ih]
theorem ZtP (x:List Tbl) (hx:FitX x) (hR:RightX x) (hn:x.length≤60) (ks:List It):∀ (q i:Nat) (C:List Nat) (ii:Int) (Bo:Code),Zf Tryz.f25 0 Bo→ii=(i:Int)→x.length=i+q→(∀ c∈C,c < i)→C.length≤i →
  RL K (.run 25 0 (.code Bo::.lp Bo (some ([1,2,3,4,14,15,16],[])) 4::.blk 0 4::ks) [(1,.ptr 0 0),(2,.ptr 1 0),(3,.own 3 (C.map (nmX x)).length),(4,.ptr 2 0),(14,.rows (x.map Za)),(15,I (x.length:Int)),(16,I ii)] (ooH x .nils (C.map (nmX x)))) =
  R K (.run 25 0 ks [(1,.ptr 0 0),(2,.ptr 1 0),(3,.own 3 ((C++JM x i q).map (nmX x)).length),(4,.ptr 2 0)] (ooH x .nils ((C++JM x i q).map (nmX x))))
 | 0,i,C,ii,Bo,hB,hi,hq,hC,hl=>by
  subst hi
  have d:¬(i:Int) < (x.length:Int):=by omega
  simp only [JM,List.append_nil]
  generalize C.map (nmX x)=ms
  unfold Zf at hB
  simp -implicitDefEqProofs only [go_sem,simprocAttr,Tryz.f25,Zb] at hB
  subst hB
  rw [Zc]
  simp -implicitDefEqProofs only [go_sem,simprocAttr,ooH,d]
 | q+1,i,C,ii,Bo,hB,hi,hq,hC,hl=>by
  subst hi
  have hB':=hB
  have d:(i:Int) < (x.length:Int):=by omega
  have h7:ZC .i64 ((i:Int)+1)=((i+1:Nat):Int):=Zs (n:=x.length) (by omega) (by omega)
  obtain ⟨t,ht⟩:=Ze (l:=x) (i:=i) (by omega)
  have hg:=ZG ht
  have hno:(C.map (nmX x)).contains t.nm=false:=by
   rw [←ZbT ht,ZfX hR (fun j hj=>by have:=hC j hj;omega) (by omega)]
   cases e:C.contains i with
   | false=>rfl
   | true =>
    have:=hC i (by simpa using e)
    omega
  have l2:=fun ks B hB=>ZtJ x hx i (by omega) t (C.map (nmX x)) (by rw [List.length_map];omega) hno ks x.length 0 false 0 B hB rfl (by omega)
  have hC2:∀ c∈C++(if ZbB (Qo x i) 0 x.length=true then [i] else []),c < i+1:=by
   intro c hc
   rcases List.mem_append.1 hc with h | h
   ·have:=hC c h;omega
   ·split at h
    ·simp at h;omega
    ·simp at h
  have hl2:(C++if ZbB (Qo x i) 0 x.length=true then [i] else []).length≤i+1:=by
   rw [List.length_append];split<;>simp<;>omega
  have ih:=ZtP x hx hR hn ks q (i+1) (C++if ZbB (Qo x i) 0 x.length=true then [i] else []) _ Bo hB' rfl (by omega) hC2 hl2
  have e:C++JM x i (q+1)=(C++if ZbB (Qo x i) 0 x.length=true then [i] else [])++JM x (i+1) q:=by
   rw [List.append_assoc];rfl
  have e2:(C.map (nmX x)++if ZbB (Qo x i) 0 x.length=true then [t.nm] else [])=(C++if ZbB (Qo x i) 0 x.length=true then [i] else []).map (nmX x):=by
   rw [List.map_append]
   split
   ·rw [List.map_singleton,ZbT ht]
   ·rfl
  rw [e]
  simp only [Bool.false_or,Bool.false_eq_true,if_false,List.append_nil] at l2
  rw [e2] at l2
  generalize (C++if ZbB (Qo x i) 0 x.length=true then [i] else [])=D at *
  generalize (D++JM x (i+1) q).map (nmX x)=fs at *
  generalize C.map (nmX x)=cs at *
  generalize D.map (nmX x)=ds at *
  simp only [ooH,Za,List.cons_append,List.nil_append] at hg l2 ih
  unfold Zf at hB
  simp -implicitDefEqProofs only [go_sem,simprocAttr,Tryz.f25,Zb] at hB
  subst hB
  rw [Zc]
  simp -implicitDefEqProofs only [go_sem,simprocAttr,ooH,Za,d,h7,hg,List.length_map]
  rw [l2 _ _ ?_]
  ·simp -implicitDefEqProofs only [go_sem,simprocAttr,h7,Zq]
   rw [ih]
  ·rfl
abbrev waH (x:List Tbl) (i:Nat):Zd:=[.cells [.rows (x.map Za)],.cells [I (i:Int)],.cells [.nils],.cells [Ze2 x]]
abbrev wbH (x:List Tbl) (i:Nat) (o:List Nat):Zd:=[.cells [.rows (x.map Za)],.cells [I (i:Int)],.cells [.own 4 o.length],.cells [Ze2 x],.rows 1 (SLs (o.map (nmX x))) false]
theorem Zzb (x:List Tbl) (hx:FitX x) (hR:RightX x) (i:Nat) (hi:i < x.length) (t:Tbl) (ht:t∈x) (f:Fgn) (hf:f∈t.fgn) :
  R K (.call 65 [ZhZ f,.ptr 0 0,.ptr 1 0,.ptr 2 0,.ptr 3 0] (waH x i))=some (.bool (ZaO x i [] f),waH x i):=by
 obtain ⟨n1,n2,n3⟩:=Zhj hR ht hf
 have g1:=Yu x f.tb hx.len
 rw [n3] at g1
 have hcn:R K (.call 18 [.rows [],.str f.tb] [])=some (.bool false,[]):=Xx f.tb [] (by simp)
 unfold ZaO
 generalize toN x f=j at *
 have e0:((j:Int)==(i:Int))=(j==i):=by rw [Bool.eq_iff_iff,beq_iff_eq,beq_iff_eq];omega
 have r1:=QL hi
 have r2:=QL n1
 have b1:=QE (x:=x) (i:=i) n1
 have b2:=QE (x:=x) (i:=j) hi
 simp only [List.contains_nil]
 generalize YL x i j=u at *
 generalize YL x j i=v at *
 cases he:(j==i) with
 | true =>
  rw [he] at e0
  rw [Zad]
  simp -implicitDefEqProofs only [go_sem,simprocAttr,Tryz.f65,Zt,g1,e0,bne]
  all_goals rfl
 | false =>
  rw [he] at e0
  cases u with
  | true =>
   rw [Zad]
   simp -implicitDefEqProofs only [go_sem,simprocAttr,Tryz.f65,Zt,g1,e0,bne,hcn,r1,r2,b1,b2]
   all_goals rfl
  | false =>
   rw [Zad]
   simp -implicitDefEqProofs only [go_sem,simprocAttr,Tryz.f65,Zt,g1,e0,bne,hcn,r1,r2,b1,b2]
   all_goals rfl
theorem ZAK (x:List Tbl) (hx:FitX x) (hR:RightX x) (i:Nat) (hi:i < x.length) (o:List Nat) (ho:∀ j∈o,j < x.length) (hl:o.length≤1000000) (t:Tbl) (ht:t∈x) (f:Fgn) (hf:f∈t.fgn) :
  R K (.call 65 [ZhZ f,.ptr 0 0,.ptr 1 0,.ptr 2 0,.ptr 3 0] (wbH x i o))=some (.bool (ZaO x i o f),wbH x i o):=by
 obtain ⟨n1,n2,n3⟩:=Zhj hR ht hf
 have g1:=Yu x f.tb hx.len
 rw [n3] at g1
 have hcn:=Xx f.tb (o.map (nmX x)) (by rw [List.length_map];exact hl)
 have lo:(SLs (o.map (nmX x))).length=o.length:=by rw [Yx,List.length_map]
 rw [←n2,ZfX hR ho n1,n2] at hcn
 unfold ZaO
 generalize toN x f=j at *
 have e0:((j:Int)==(i:Int))=(j==i):=by rw [Bool.eq_iff_iff,beq_iff_eq,beq_iff_eq];omega
 have r1:=QL hi
 have r2:=QL n1
 have b1:=QE (x:=x) (i:=i) n1
 have b2:=QE (x:=x) (i:=j) hi
 generalize YL x i j=u at *
 generalize YL x j i=v at *
 generalize o.contains j=c at *
 cases he:(j==i) with
 | true =>
  rw [he] at e0
  rw [Zad]
  simp -implicitDefEqProofs only [go_sem,simprocAttr,Tryz.f65,Zt,g1,e0,bne,Zq,lo]
  all_goals rfl
 | false =>
  rw [he] at e0
  cases c with
  | true =>
   rw [Zad]
   simp -implicitDefEqProofs only [go_sem,simprocAttr,Tryz.f65,Zt,g1,e0,bne,hcn,r1,r2,b1,b2,Zq,lo]
   all_goals rfl
  | false =>
   cases u with
   | true =>
    rw [Zad]
    simp -implicitDefEqProofs only [go_sem,simprocAttr,Tryz.f65,Zt,g1,e0,bne,hcn,r1,r2,b1,b2,Zq,lo]
    all_goals rfl
   | false =>
    rw [Zad]
    simp -implicitDefEqProofs only [go_sem,simprocAttr,Tryz.f65,Zt,g1,e0,bne,hcn,r1,r2,b1,b2,Zq,lo]
    all_goals rfl
theorem JF (σ:Nat→Nat):∀ l:List (List UInt8),XK σ (SLs l)=SLs l
 | []=>rfl
 | s::l=>by
  have:=JF σ l
  simp only [SLs,List.map_cons,XK,XI,ren] at this ⊢
  rw [this]
theorem ZBl (x:List Tbl) (hx:FitX x) (hR:RightX x) (i:Nat) (hi:i < x.length) (t:Tbl) (ht:t∈x) (f:Fgn) (hf:f∈t.fgn) :
  Yv nlA (R K) (waH x i) [ZhZ f] (.fn 65 [.ptr 0 0,.ptr 1 0,.ptr 2 0,.ptr 3 0])=some (.bool (ZaO x i [] f),waH x i):=by
 have hk:=Zzb x hx hR i hi t ht f hf
 simp only [waH,ZhZ,Zt] at hk ⊢
 simp -implicitDefEqProofs only [go_sem,simprocAttr,hk]
theorem Zy7 (x:List Tbl) (hx:FitX x) (hR:RightX x) (i:Nat) (hi:i < x.length) (o:List Nat) (ho:∀ j∈o,j < x.length) (hl:o.length≤1000000) (t:Tbl) (ht:t∈x) (f:Fgn) (hf:f∈t.fgn) :
  Yv nlA (R K) (wbH x i o) [ZhZ f] (.fn 65 [.ptr 0 0,.ptr 1 0,.ptr 2 0,.ptr 3 0])=some (.bool (ZaO x i o f),wbH x i o):=by
 have hk:=ZAK x hx hR i hi o ho hl t ht f hf
 have lo:(SLs (o.map (nmX x))).length=o.length:=by rw [Yx,List.length_map]
 simp only [wbH,ZhZ,Zt] at hk ⊢
 simp -implicitDefEqProofs only [go_sem,simprocAttr,hk,Zq,JF,lo]
theorem Zq6 (x:List Tbl) (hx:FitX x) (hR:RightX x) (i:Nat) (hi:i < x.length) (t:Tbl) (ht:x[i]? = some t) :
  R K (.call 64 [.rows (t.fgn.map Zt),.fn 65 [.ptr 0 0,.ptr 1 0,.ptr 2 0,.ptr 3 0]] (waH x i))=some (.bool (Zcq (YL x) (toL x i) (fun j=>([]:List Nat).contains j) i),waH x i):=by
 have hm:=List.mem_of_getElem? ht
 have hi2:=Zl7 _ (waH x i) (ZaO x i []) rfl t.fgn (hx.tbl t hm).fgn (ZBl x hx hR i hi t hm)
 have e:=Zis (ZaO x i []) t.fgn 0
 rw [ZgR ht []] at e
 simp only [waH] at hi2
 rw [Zm8]
 simp -implicitDefEqProofs only [go_sem,simprocAttr,Tryz.f64,hi2,e]
theorem Zqo (x:List Tbl) (hx:FitX x) (hR:RightX x) (i:Nat) (hi:i < x.length) (o:List Nat) (ho:∀ j∈o,j < x.length) (hl:o.length≤1000000) (t:Tbl) (ht:x[i]? = some t) :
  R K (.call 64 [.rows (t.fgn.map Zt),.fn 65 [.ptr 0 0,.ptr 1 0,.ptr 2 0,.ptr 3 0]] (wbH x i o))=some (.bool (Zcq (YL x) (toL x i) (fun j=>o.contains j) i),wbH x i o):=by
 have hm:=List.mem_of_getElem? ht
 have hu:Z6 (wbH x i o).length (ZP (wbH x i o))=true:=by
  refine Ze1 fun l hl=>?_
  simp only [ZP,Xj,Zk,Zm,Zq,List.append_nil,List.nil_append,List.mem_cons,List.not_mem_nil,or_false] at hl
  subst hl
  simp
 have lo:(SLs (o.map (nmX x))).length=o.length:=by rw [Yx,List.length_map]
 have hi2:=Zl7 _ (wbH x i o) (ZaO x i o) hu t.fgn (hx.tbl t hm).fgn (Zy7 x hx hR i hi o ho hl t hm)
 have e:=Zis (ZaO x i o) t.fgn 0
 rw [ZgR ht o] at e
 simp only [wbH] at hi2
 rw [Zm8]
 simp -implicitDefEqProofs only [go_sem,simprocAttr,Tryz.f64,hi2,e,Zq,JF,lo]
abbrev o7H (x:List Tbl) (cs:List (List UInt8)) (i0:Nat) (t0:Tbl) (o:List Nat):Zd:=[.cells [.rows (x.map Za)],.cells [.own 6 o.length],.cells [Ze2 x],.rows 1 (SLs cs) false,.cells [I (i0:Int)],.cells (Za t0),.rows 1 (SLs (o.map (nmX x))) false]
theorem Zq5 (x:List Tbl) (hx:FitX x) (hR:RightX x) (cs:List (List UInt8)) (k:Nat) (tk:Tbl) (htk:x[k]? = some tk) (ks:List It):∀ (q i:Nat) (ii:Int) (Bo:Code),Zf Tryz.f25 6 Bo→ii=(i:Int)→x.length=i+q→W6 (Qp x []) i q=some k →
  RL K (.run 25 0 (.code Bo::.lp Bo (some ([1,2,3,4,69,70,71],[])) 4::.blk 6 4::ks) [(1,.ptr 0 0),(2,.ptr 1 0),(3,.own 3 cs.length),(4,.ptr 2 0),(69,.rows (x.map Za)),(70,I (x.length:Int)),(71,I ii)] (ooH x .nils cs)) =
  R K (.run 25 0 ks [(1,.ptr 0 0),(2,.ptr 1 0),(3,.own 3 cs.length),(4,.ptr 2 0)] (o7H x cs k tk [k]))
 | 0,i,ii,Bo,hB,hi,hq,hk=>by simp [W6] at hk
 | q+1,i,ii,Bo,hB,hi,hq,hk=>by
  subst hi
  have hB':=hB
  have hlen:=hx.len
  have d:(i:Int) < (x.length:Int):=by omega
  have h7:ZC .i64 ((i:Int)+1)=((i+1:Nat):Int):=Zs (n:=x.length) (by omega) (by omega)
  obtain ⟨t,ht⟩:=Ze (l:=x) (i:=i) (by omega)
  have hg:=ZG ht
  have hc:=Zq6 x hx hR i (by omega) t ht
  have hcn:R K (.call 18 [.rows [],.str t.nm] [])=some (.bool false,[]):=Xx t.nm [] (by simp)
  have ih:=fun hk=>Zq5 x hx hR cs k tk htk ks q (i+1) _ Bo hB' rfl (by omega) hk
  have hF:Qp x [] i=!Zcq (YL x) (toL x i) (fun j=>([]:List Nat).contains j) i:=rfl
  have hN:W6 (Qp x []) i (q+1)=if Qp x [] i=true then some i else W6 (Qp x []) (i+1) q:=rfl
  have rm:(17≤Zg)=True:=eq_true (by unfold Zg;omega)
  rw [hN,hF] at hk
  simp only [waH] at hc
  simp only [Za] at hg
  cases hw:Zcq (YL x) (toL x i) (fun j=>([]:List Nat).contains j) i with
  | true =>
   rw [hw] at hc hk
   have ih:=ih (by simpa using hk)
   simp only [ooH,o7H] at ih
   unfold Zf at hB
   simp -implicitDefEqProofs only [go_sem,simprocAttr,Tryz.f25,Zb] at hB
   subst hB
   rw [Zc]
   simp -implicitDefEqProofs only [go_sem,simprocAttr,ooH,Za,d,h7,hg,List.length_map,Zq,hc]
   exact ih
  | false =>
   rw [hw] at hc hk
   have ek:i=k:=by simpa using hk
   subst ek
   rw [ht] at htk
   obtain rfl:=Option.some.inj htk
   have en:=ZbT ht
   unfold Zf at hB
   simp -implicitDefEqProofs only [go_sem,simprocAttr,Tryz.f25,Zb] at hB
   subst hB
   rw [Zc]
   simp -implicitDefEqProofs only [go_sem,simprocAttr,ooH,Za,d,h7,hg,List.length_map,Zq,hc,hcn,rm,Nat.zero_add,Nat.one_mul]
   simp only [o7H,Za,List.map_singleton,en]
   rfl
theorem Zqr (x:List Tbl) (hx:FitX x) (hR:RightX x) (cs:List (List UInt8)) (i0:Nat) (t0:Tbl) (o:List Nat) (ho:∀ j∈o,j < x.length) (hl:o.length≤1000000) (k:Nat) (ks:List It):∀ (q i:Nat) (ii:Int) (Bo:Code),Zf Tryz.f25 6 Bo→ii=(i:Int)→x.length=i+q→W6 (Qp x o) i q=some k →
  RL K (.run 25 0 (.code Bo::.lp Bo (some ([1,2,3,4,69,70,71],[])) 7::.blk 6 7::ks) [(1,.ptr 0 0),(2,.ptr 1 0),(3,.own 3 cs.length),(4,.ptr 2 0),(69,.rows (x.map Za)),(70,I (x.length:Int)),(71,I ii)] (o7H x cs i0 t0 o)) =
  R K (.run 25 0 ks [(1,.ptr 0 0),(2,.ptr 1 0),(3,.own 3 cs.length),(4,.ptr 2 0)] (o7H x cs i0 t0 (o++[k])))
 | 0,i,ii,Bo,hB,hi,hq,hk=>by simp [W6] at hk
 | q+1,i,ii,Bo,hB,hi,hq,hk=>by
  subst hi
  have hB':=hB
  have hlen:=hx.len
  have d:(i:Int) < (x.length:Int):=by omega
  have h7:ZC .i64 ((i:Int)+1)=((i+1:Nat):Int):=Zs (n:=x.length) (by omega) (by omega)
  obtain ⟨t,ht⟩:=Ze (l:=x) (i:=i) (by omega)
  have hg:=ZG ht
  have hc:=Zqo x hx hR i (by omega) o ho hl t ht
  have hcn:=Xx t.nm (o.map (nmX x)) (by rw [List.length_map];exact hl)
  rw [←ZbT ht,ZfX hR ho (by omega),ZbT ht] at hcn
  have lo:(SLs (o.map (nmX x))).length=o.length:=by rw [Yx,List.length_map]
  have sa:=ZsS ht o
  have ih:=fun hk=>Zqr x hx hR cs i0 t0 o ho hl k ks q (i+1) _ Bo hB' rfl (by omega) hk
  have hF:Qp x o i=(!o.contains i&&!Zcq (YL x) (toL x i) (fun j=>o.contains j) i):=rfl
  have hN:W6 (Qp x o) i (q+1)=if Qp x o i=true then some i else W6 (Qp x o) (i+1) q:=rfl
  have rm:((o.length+1)*17≤Zg)=True:=eq_true (by unfold Zg;omega)
  rw [hN,hF] at hk
  simp only [wbH] at hc
  simp only [Za] at hg
  cases hw:Zcq (YL x) (toL x i) (fun j=>o.contains j) i with
  | true =>
   rw [hw] at hc hk
   have ih:=ih (by simpa using hk)
   simp only [o7H,Za,List.length_append,List.length_cons,List.length_nil,Nat.zero_add] at ih
   unfold Zf at hB
   simp -implicitDefEqProofs only [go_sem,simprocAttr,Tryz.f25,Zb] at hB
   subst hB
   rw [Zc]
   simp -implicitDefEqProofs only [go_sem,simprocAttr,o7H,Za,d,h7,hg,List.length_map,Zq,JF,lo,hc]
   exact ih
  | false =>
   rw [hw] at hc hk
   cases hn:o.contains i with
   | true =>
    rw [hn] at hk hcn
    have ih:=ih (by simpa using hk)
    simp only [o7H,Za,List.length_append,List.length_cons,List.length_nil,Nat.zero_add] at ih
    unfold Zf at hB
    simp -implicitDefEqProofs only [go_sem,simprocAttr,Tryz.f25,Zb] at hB
    subst hB
    rw [Zc]
    simp -implicitDefEqProofs only [go_sem,simprocAttr,o7H,Za,d,h7,hg,List.length_map,Zq,JF,lo,hc,hcn]
    exact ih
   | false =>
    rw [hn] at hk hcn
    have ek:i=k:=by simpa using hk
    subst ek
    unfold Zf at hB
    simp -implicitDefEqProofs only [go_sem,simprocAttr,Tryz.f25,Zb] at hB
    subst hB
    rw [Zc]
    simp -implicitDefEqProofs only [go_sem,simprocAttr,o7H,Za,d,h7,hg,List.length_map,Zq,JF,lo,hc,hcn,rm,sa,List.length_append,List.length_cons,List.length_nil,Nat.zero_add]
theorem ZtE (x:List Tbl) (hx:FitX x) (hR:RightX x) (cs:List (List UInt8)) (i0:Nat) (t0:Tbl) (ks:List It):∀ (m:Nat) (o:List Nat) (Bo:Code),Zf Tryz.f25 4 Bo→x.length=o.length+m→(∀ j∈o,j < x.length) →
  RL K (.run 25 0 (.code Bo::.lp Bo (some ([1,2,3,4],[])) 4::.blk 4 4::ks) [(1,.ptr 0 0),(2,.ptr 1 0),(3,.own 3 cs.length),(4,.ptr 2 0)] (o7H x cs i0 t0 o)) =
  R K (.run 25 0 ks [(2,.ptr 1 0),(3,.own 3 cs.length)] (o7H x cs i0 t0 (Qu x m o)))
 | 0,o,Bo,hB,hq,ho=>by
  have d:¬(o.length:Int) < (x.length:Int):=by omega
  simp only [Qu]
  unfold Zf at hB
  simp -implicitDefEqProofs only [go_sem,simprocAttr,Tryz.f25,Zb] at hB
  subst hB
  rw [Zc]
  simp -implicitDefEqProofs only [go_sem,simprocAttr,o7H,Za,d,Zq,List.length_map]
 | m+1,o,Bo,hB,hq,ho=>by
  have hB':=hB
  have hlen:=hx.len
  have d:(o.length:Int) < (x.length:Int):=by omega
  obtain ⟨i,e1,e2,_⟩:=ZhA hR o (by omega)
  have l6:=fun ks B hB=>Zqr x hx hR cs i0 t0 o ho (by omega) i ks x.length 0 0 B hB rfl (by omega) e1
  have ih:=ZtE x hx hR cs i0 t0 ks m (o++[i]) _ hB' (by simp;omega) (fun j hj=>by
   rcases List.mem_append.1 hj with h | h
   ·exact ho j h
   ·rw [List.mem_singleton] at h;omega)
  have hN:Qu x (m+1) o=Qu x m (o++[i]):=by simp only [Qu];rw [e1]
  rw [hN]
  simp only [o7H,Za,List.length_append,List.length_cons,List.length_nil,Nat.zero_add] at l6 ih
  unfold Zf at hB
  simp -implicitDefEqProofs only [go_sem,simprocAttr,Tryz.f25,Zb] at hB
  subst hB
  rw [Zc]
  simp -implicitDefEqProofs only [go_sem,simprocAttr,o7H,Za,d,List.length_map]
  rw [l6 _ _ ?_]
  ·simp -implicitDefEqProofs only [go_sem,simprocAttr,Zq]
   exact ih
  ·rfl
theorem ZqA (x:List Tbl) (hx:FitX x) (hR:RightX x) (hn:x.length≤60):R K (.call 25 [WI x] [])=some (.tup [ZnA x,ZsZ x],[]):=by
 have hlen:=hx.len
 have g2:=ZrZ x hx hR
 have l0:=fun ks B hB=>ZtP x hx hR hn ks x.length 0 [] 0 B hB rfl (by omega) (by simp) (by simp)
 simp only [ooH,List.nil_append,List.map_nil] at l0
 rw [ZrT]
 simp -implicitDefEqProofs only [go_sem,simprocAttr,Tryz.f25,List.length_map,g2]
 rw [show (AV.own 3 0)=AV.own 3 ([]:List (List UInt8)).length from rfl,l0 _ _ ?_]
 ·cases hm:x.length with
  | zero =>
   have ec:JM x 0 0=[]:=rfl
   have eo:ZnA x=.rows []:=by unfold ZnA;rw [hm];rfl
   have ei:ZsZ x=.rows []:=by unfold ZsZ;rw [hm];rfl
   have d:((0:Int) < (x.length:Int))=False:=eq_false (by omega)
   rw [eo,ei,ec]
   simp -implicitDefEqProofs only [go_sem,simprocAttr,Zq,List.length_map,List.map_nil,List.length_nil]
   rw [Zc]
   simp -implicitDefEqProofs only [go_sem,simprocAttr,Zq,List.length_map,d,or_self]
  | succ m =>
   obtain ⟨k,e1,e2,_⟩:=ZhA hR [] (by simp;omega)
   obtain ⟨tk,htk⟩:=Ze (l:=x) (i:=k) e2
   have l6:=fun ks B hB=>Zq5 x hx hR ((JM x 0 x.length).map (nmX x)) k tk htk ks x.length 0 0 B hB rfl (by omega) e1
   have l4:=fun ks B hB=>ZtE x hx hR ((JM x 0 x.length).map (nmX x)) k tk ks m [k] B hB (by simp;omega) (by simp;omega)
   have hN:ZnA x=.rows (SLs ((Qu x m [k]).map (nmX x))):=by
    unfold ZnA
    rw [hm]
    have:Qu x (m+1) []=Qu x m [k]:=by simp only [Qu];rw [e1];rfl
    rw [this]
   have hC:ZsZ x=.rows (SLs ((JM x 0 x.length).map (nmX x))):=rfl
   rw [←hm,hN,hC]
   generalize Qu x m [k]=o at *
   generalize (JM x 0 x.length).map (nmX x)=cs at *
   have d:((0:Int) < (x.length:Int))=True:=eq_true (by omega)
   simp only [ooH,o7H,Za,List.map_singleton,List.length_cons,List.length_nil,Nat.zero_add] at l6 l4
   simp -implicitDefEqProofs only [go_sem,simprocAttr,Zq,List.length_map,d,or_self]
   rw [Zc]
   simp -implicitDefEqProofs only [go_sem,simprocAttr,Zq,List.length_map,d,or_self]
   rw [l6 _ _ ?_]
   ·simp -implicitDefEqProofs only [go_sem,simprocAttr,Zq]
    rw [l4 _ _ ?_]
    ·simp -implicitDefEqProofs only [go_sem,simprocAttr,Zq,Yx,List.length_map,or_self]
    ·rfl
   ·rfl
 ·rfl
theorem tm (a b:Int) (h:0≤a):a.tmod b=a % b:=Int.tmod_eq_emod_of_nonneg h
theorem td (a b:Int) (h:0≤a):a.tdiv b=a / b:=Int.tdiv_eq_ediv_of_nonneg h
def Qn (x n:Int):Int:=if n < 1 then 0 else if x.tmod n < 0 then ZC .i64 (x.tmod n+n) else x.tmod n
theorem Zmt (x n:Int):R K (.call 55 [.int .i64 x,.int .i64 n] [])=some (.int .i64 (Qn x n),[]):=by
 by_cases hn:n < 1
 ·have h1:decide (n < 1)=true:=by simp [hn]
  rw [Zl9]
  simp -implicitDefEqProofs only [go_sem,simprocAttr,Tryz.f55,h1]
  simp [Qn,hn]
 ·have h1:decide (n < 1)=false:=by simpa using hn
  have h2:n≠0:=by omega
  have e:Qn x n=if x.tmod n < 0 then ZC .i64 (x.tmod n+n) else x.tmod n:=if_neg hn
  rw [e]
  rw [Zl9]
  simp -implicitDefEqProofs only [go_sem,simprocAttr,Tryz.f55,h1,h2]
  repeat' ((first | apply ZI | apply ZR | apply ZY)<;>intro hc<;>simp -implicitDefEqProofs only [hc,go_sem,simprocAttr,h1,h2])
  all_goals simp_all
  intro;omega
theorem ZhJ (x n:Int) (h1:1≤n) (h2:n≤4611686018427387904):0≤Qn x n∧Qn x n < n:=by
 unfold Qn
 rw [if_neg (by omega)]
 have a:=Int.tmod_lt_of_pos x (show 0 < n by omega)
 have b:-n < x.tmod n:=by
  have:=Int.tmod_lt_of_pos (-x) (show 0 < n by omega)
  rw [Int.neg_tmod] at this
  omega
 split
 ·rw [ZV (by omega) (by omega)];omega
 ·omega
def Zw (L:List Int) (a n:Int):Int :=
 if L.length=0 then Qn (ZC .i64 ((a+1)*7919)) n
 else Qn (ZC .i64 (Qn (L.getD (a % L.length).toNat 0) 1073741824+ZC .i64 (a / L.length*(7919+a % L.length)))) n
abbrev LR (L:List Int):AV:=.rows (L.map fun x=>[.int .i64 x])
theorem Zvp (L:List Int) (a n:Int) (ha:0≤a) (ha2:a≤4611686018427387904) (hL:L.length≤9223372036854775807):R K (.call 15 [.ptr 0 0,.int .i64 n] [.cells [LR L,.int .i64 a]])=some (.int .i64 (Zw L a n),[.cells [LR L,.int .i64 (a+1)]]):=by
 have e1:ZC .i64 (a+1)=a+1:=ZV (by omega) (by omega)
 have e2:ZC .i64 (a+1 - 1)=a:=by rw [ZV (by omega) (by omega)];omega
 have el:(L.map fun x=>[AV.int .i64 x]).length=L.length:=List.length_map _
 by_cases h:L.length=0
 ·have h0:decide (((L.length:Nat):Int)=0)=true:=by simp [h]
  have hb:(((L.length:Nat):Int)==0)=true:=by simp [h]
  have e:Zw L a n=Qn (ZC .i64 ((a+1)*7919)) n:=if_pos h
  rw [e]
  rw [Zm5]
  simp -implicitDefEqProofs only [go_sem,simprocAttr,Tryz.f15,e1,hb,el,Zmt]
 ·have hb:(((L.length:Nat):Int)==0)=false:=by simpa using h
  have hl1:(1:Int)≤L.length:=by omega
  have e3:a.tmod (L.length:Int)=a % L.length:=tm _ _ ha
  have e4:ZC .i64 (a.tdiv (L.length:Int))=a / L.length:=by
   rw [td _ _ ha]
   have:=Int.ediv_le_self (L.length:Int) ha
   have:=Int.ediv_nonneg ha (show (0:Int)≤L.length by omega)
   exact ZV (by omega) (by omega)
  have m1:=Int.emod_nonneg a (show (L.length:Int)≠0 by omega)
  have m2:=Int.emod_lt_of_pos a (show (0:Int) < L.length by omega)
  have m3:a % (L.length:Int)≤a:=by
   rw [Int.emod_def]
   exact Int.sub_le_self a (Int.mul_nonneg (by omega) (Int.ediv_nonneg ha (by omega)))
  obtain ⟨x,hx⟩:=Ze (l:=L) (i:=(a % L.length).toNat) (by omega)
  have e5:at? (L.map fun x=>[AV.int .i64 x]) (a % L.length)=some [.int .i64 x]:=by
   unfold at?
   rw [if_pos m1]
   simp [hx]
  have e6:ZC .i64 (7919+a % L.length)=7919+a % L.length:=ZV (by omega) (by omega)
  have hd:L.getD (a % L.length).toNat 0=x:=by simp [List.getD,hx]
  have hne:((L.length:Nat):Int)≠0:=by omega
  have e:Zw L a n=Qn (ZC .i64 (Qn x 1073741824+ZC .i64 (a / L.length*(7919+a % L.length)))) n:=by
   unfold Zw
   rw [if_neg h,hd]
  rw [e]
  rw [Zm5]
  simp -implicitDefEqProofs only [go_sem,simprocAttr,Tryz.f15,e1,e2,e3,e4,e5,e6,hb,hne,h,el,Zmt]
theorem Zu (L:List Int) (a n:Int) (h1:1≤n) (h2:n≤4611686018427387904):0≤Zw L a n∧Zw L a n < n:=by
 unfold Zw
 split<;>exact ZhJ _ _ h1 h2
theorem Zkq (s:List UInt8) (c:Nat) (h:c≤1000) (hs:s.length≤1000):R K (.call 72 [.str s,I (c:Int)] [])=some (.str (Lib.repeatL s c),[]) :=
 ZaG (by
  show Zcz [.str s,I (c:Int)]=_
  simp only [Zcz]
  have:s.length*c≤1000*1000:=Nat.mul_le_mul hs h
  rw [if_pos (by simp only [Bool.and_eq_true,decide_eq_true_eq,Int.toNat_natCast];omega),Int.toNat_natCast])
abbrev St (L:List Int) (a:Int):Zd:=[.cells [LR L,I a]]
structure Gd (L:List Int) (a B:Int):Prop where
 pos:0≤a
 top:a+B≤4611686018427387904
 len:L.length≤9223372036854775807
theorem Gd.step {L:List Int} {a B:Int} (h:Gd L a B) (a' B':Int) (h1:a≤a') (h2:a'+B'≤a+B):Gd L a' B':=⟨by have:=h.pos;omega,by have:=h.top;omega,h.len⟩
def Out (t:Tk) (L:List Int) (a B:Int) (P:AV→Prop):Prop:=∃ r a',R K t=some (r,St L a')∧a≤a'∧a'≤a+B∧P r
theorem Out.mk {t:Tk} {L:List Int} {a B:Int} {P:AV→Prop} (r:AV) (a':Int) (h1:a≤a') (h2:a'≤a+B) (h3:P r) (e:R K t=some (r,St L a')):Out t L a B P:=⟨r,a',e,h1,h2,h3⟩
section
variable {L:List Int} {a B:Int}
theorem ZN (h:Gd L a B) (hB:1≤B) (n:Int):R K (.call 15 [.ptr 0 0,I n] (St L a))=some (I (Zw L a n),St L (a+1)):=by
 have h1:=h.pos
 have h2:=h.top
 exact Zvp L a n h1 (by omega) h.len
def Q1 (L:List Int) (a lo hi:Int):Int:=lo+Zw L a (hi - lo+1)
theorem X1 (L:List Int) (a lo hi:Int) (h1:lo≤hi) (h2:hi - lo≤4611686018427387000):lo≤Q1 L a lo hi∧Q1 L a lo hi≤hi:=by
 have:=Zu L a (hi - lo+1) (by omega) (by omega)
 unfold Q1
 omega
theorem W1 (h:Gd L a B) (hB:1≤B) (lo hi:Int) (h1:lo≤hi) (h2:-1152921504606846976≤lo) (h3:hi≤1152921504606846976):R K (.call 13 [.ptr 0 0,I lo,I hi] (St L a))=some (I (Q1 L a lo hi),St L (a+1)):=by
 have x0:=ZN h hB (hi - lo+1)
 have b0:=X1 L a lo hi h1 (by omega)
 have d0:decide (hi < lo)=false:=decide_eq_false (by omega)
 have w1:ZC .i64 (hi - lo)=hi - lo:=ZV (by omega) (by omega)
 have w2:ZC .i64 (hi - lo+1)=hi - lo+1:=ZV (by omega) (by omega)
 have w3:ZC .i64 (lo+Zw L a (hi - lo+1))=Q1 L a lo hi:=by
  unfold Q1 at b0 ⊢
  exact ZV (by omega) (by omega)
 rw [Zs4]
 simp -implicitDefEqProofs only [go_sem,simprocAttr,Tryz.f13,x0,d0,w1,w2,w3]
theorem Y5 (h:Gd L a B) (hB:1≤B) (n:Int):R K (.call 8 [.ptr 0 0,I n] (St L a))=some (.bool (Zw L a n==0),St L (a+1)):=by
 have x0:=ZN h hB n
 rw [ZwA]
 simp -implicitDefEqProofs only [go_sem,simprocAttr,Tryz.f8,x0]
theorem Zuo {l:List Int} {i:Int} (h:0≤i∧i < (l.length:Int)):∃ x∈l,at? (l.map fun x=>[I x]) i=some [I x]:=by
 obtain ⟨x,hx⟩:=Ze (l:=l) (i:=i.toNat) (by omega)
 refine ⟨x,List.mem_of_getElem? hx,?_⟩
 unfold at?
 rw [if_pos h.1]
 simp [hx]
theorem ZaH (h:Gd L a B) (hB:1≤B) (l:List Int) (hl:1≤l.length) (hl2:l.length≤1000):∃ x∈l,R K (.call 6 [.ptr 0 0,.rows (l.map fun x=>[I x])] (St L a))=some (I x,St L (a+1)):=by
 have x0:=ZN h hB (l.length:Int)
 have b0:=Zu L a (l.length:Int) (by omega) (by omega)
 obtain ⟨x,hx,hg⟩:=Zuo (l:=l) b0
 refine ⟨x,hx,?_⟩
 rw [Zvj]
 simp -implicitDefEqProofs only [go_sem,simprocAttr,Tryz.f6,x0,hg]
theorem ZtM (h:Gd L a B) (hB:2≤B):∃ n a',R K (.call 70 [.ptr 0 0] (St L a))=some (I n,St L a')∧a≤a'∧a'≤a+2:=by
 have x0:=ZN h (by omega) 10
 have h1:=h.step (a+1) (B - 1) (by omega) (by omega)
 by_cases e0:Zw L a 10=0
 ·obtain ⟨x,_,p⟩:=ZaH h1 (by omega) [999999999999999,-999999999999999,1000000000000000,-1000000000000000,4611686018427387904,-9223372036854775808,9223372036854775807,253402300799,253402300800] (by decide) (by decide)
  simp only [List.map] at p
  refine ⟨x,a+1+1,?_,by omega,by omega⟩
  rw [Zik]
  simp -implicitDefEqProofs only [go_sem,simprocAttr,Tryz.f70,x0,e0,p]
 ·have b0:(Zw L a 10==0)=false:=by simpa using e0
  by_cases e1:Zw L a 10=1
  ·have x1:=W1 h1 (by omega) (-1000000) 1000000 (by omega) (by omega) (by omega)
   refine ⟨Q1 L (a+1) (-1000000) 1000000,a+1+1,?_,by omega,by omega⟩
   rw [Zik]
   simp -implicitDefEqProofs only [go_sem,simprocAttr,Tryz.f70,x0,e1,x1]
  ·have b1:(Zw L a 10==1)=false:=by simpa using e1
   have x1:=W1 h1 (by omega) (-6) 12 (by omega) (by omega) (by omega)
   refine ⟨Q1 L (a+1) (-6) 12,a+1+1,?_,by omega,by omega⟩
   rw [Zik]
   simp -implicitDefEqProofs only [go_sem,simprocAttr,Tryz.f70,x0,b0,b1,x1]
theorem ZaP {l:List (List UInt8)} {i:Int} (h:0≤i∧i < (l.length:Int)):∃ x∈l,at? (l.map fun x=>[AV.str x]) i=some [.str x]:=by
 obtain ⟨x,hx⟩:=Ze (l:=l) (i:=i.toNat) (by omega)
 refine ⟨x,List.mem_of_getElem? hx,?_⟩
 unfold at?
 rw [if_pos h.1]
 simp [hx]
def pcs:List (List UInt8):=[[97],[98],[97,98],[],[65],[37],[95],[92],[39],[32],[48],[49,50],[45,51],[116,114,117,101],[120,44,121],[40],[50,48,48,48,45,48,50,45,50,57,84,48,48,58,48,48,58,48,48]]
theorem ZrP:∀ x∈pcs,x.length≤19:=by decide
theorem ZuO:∀ x∈pcs,x.count 41=0:=by decide
theorem ZkV (s:List UInt8) (h:s.count 41=0):∀ n:Nat,(Lib.repeatL s n).count 41=0
 | 0=>by simp [Lib.repeatL]
 | n+1=>by
  have:=ZkV s h n
  simp only [Lib.repeatL] at this ⊢
  simp [List.replicate_succ,List.count_append,h,this]
theorem ZqH (c:Nat) (hc:c≤100) (ks:List It):∀ (m j:Nat) (i:Int) (t:List UInt8) (a B:Int) (Bo:Code),Zf Tryz.f71 0 Bo→Gd L a B→m≤B→i=(j:Int)→c=j+m→t.length≤19*j→t.count 41=0 →
  ∃ (t':List UInt8) (a':Int),a≤a'∧a'≤a+m∧(t'.length≤19*c∧t'.count 41=0) ∧
  RL K (.run 71 1 (.code Bo::.lp Bo (some ([0,3,4,18,19],[])) 1::.blk 0 1::ks) [(0,.ptr 0 0),(3,.lit (pcs.map fun x=>[.str x])),(4,.str t),(18,I (c:Int)),(19,I i)] (St L a)) =
  R K (.run 71 1 ks [(4,.str t')] (St L a'))
 | 0,j,i,t,a,B,Bo,hB,hG,hm,hi,hj,ht,hn=>by
  subst hi
  have h1:decide ((j:Int) < (c:Int))=false:=decide_eq_false (by omega)
  refine ⟨t,a,by omega,by omega,⟨by omega,hn⟩,?_⟩
  unfold Zf at hB
  simp -implicitDefEqProofs only [go_sem,simprocAttr,Tryz.f71,Zb] at hB
  subst hB
  rw [Zc]
  simp -implicitDefEqProofs only [go_sem,simprocAttr,h1]
 | m+1,j,i,t,a,B,Bo,hB,hG,hm,hi,hj,ht,hn=>by
  subst hi
  have hB':=hB
  have h1:decide ((j:Int) < (c:Int))=true:=decide_eq_true (by omega)
  have x1:=ZN hG (by omega) 17
  obtain ⟨x,hx,hg⟩:=ZaP (l:=pcs) (Zu L a 17 (by omega) (by omega))
  have hxl:=ZrP x hx
  have h7:=Zs (i:=j) (n:=c) (by omega) (by omega)
  have k1:(t.length+x.length≤XT)=True:=eq_true (by unfold XT;omega)
  have l1:(pcs.map fun x=>[AV.str x]).length=17:=rfl
  obtain ⟨t',a',q1,q2,q3,ih⟩:=ZqH c hc ks m (j+1) _ (t++x) (a+1) (B - 1) Bo hB' (hG.step _ _ (by omega) (by omega)) (by omega) rfl (by omega) (by rw [List.length_append];omega) (by rw [List.count_append,hn,ZuO x hx])
  refine ⟨t',a',by omega,by omega,q3,?_⟩
  unfold Zf at hB
  simp -implicitDefEqProofs only [go_sem,simprocAttr,Tryz.f71,Zb] at hB
  subst hB
  rw [Zc]
  simp -implicitDefEqProofs only [go_sem,simprocAttr,h1,x1,hg,l1,h7,k1]
  rw [ih]
theorem ZqS (h:Gd L a B) (hB:10≤B):∃ s a',R K (.call 71 [.ptr 0 0] (St L a))=some (.str s,St L a')∧a≤a'∧a'≤a+10∧s.length≤2000∧s.count 41=0:=by
 have x0:=Y5 h (by omega) 12
 have h1:=h.step (a+1) (B - 1) (by omega) (by omega)
 cases e0:Zw L a 12==0 with
 | true =>
  rw [e0] at x0
  have x1:=ZN h1 (by omega) 4
  obtain ⟨s,hs,hg⟩:=ZaP (l:=[[97],[39],[92],[37]]) (Zu L (a+1) 4 (by omega) (by omega))
  have hsn:s.count 41=0:=(by decide:∀ x∈([[97],[39],[92],[37]]:List (List UInt8)),x.count 41=0) s hs
  have hsl:s.length≤1:=(by decide:∀ x∈([[97],[39],[92],[37]]:List (List UInt8)),x.length≤1) s hs
  have h2:=h1.step (a+1+1) (B - 2) (by omega) (by omega)
  obtain ⟨x,hx,p⟩:=ZaH h2 (by omega) [49,50,51,99,100,101] (by decide) (by decide)
  have hxb:0≤x∧x≤101:=(by decide:∀ x∈([49,50,51,99,100,101]:List Int),0≤x∧x≤101) x hx
  have pr:=Zkq s x.toNat (by omega) (by omega)
  rw [Int.toNat_of_nonneg hxb.1] at pr
  simp only [List.map] at p hg
  refine ⟨Lib.repeatL s x.toNat,a+1+1+1,?_,by omega,by omega,?_⟩
  ·rw [Zmq]
   simp -implicitDefEqProofs only [go_sem,simprocAttr,Tryz.f71,x0,x1,hg,p,pr]
  ·rw [Lib.repeatL_length,Nat.mul_comm]
   have:s.length*x.toNat≤1*101:=Nat.mul_le_mul hsl (by omega)
   exact ⟨by omega,ZkV s hsn _⟩
 | false =>
  rw [e0] at x0
  have x1:=W1 h1 (by omega) 0 3 (by omega) (by omega) (by omega)
  have b1:=X1 L (a+1) 0 3 (by omega) (by omega)
  have e1:((Q1 L (a+1) 0 3).toNat:Int)=Q1 L (a+1) 0 3:=by omega
  obtain ⟨t',a',q1,q2,q3,lk⟩:=ZqH (L:=L) (Q1 L (a+1) 0 3).toNat (by omega) [.code _] (Q1 L (a+1) 0 3).toNat 0 0 [] (a+1+1) (B - 2) _ rfl (h1.step _ _ (by omega) (by omega)) (by omega) rfl (by omega) (by simp) rfl
  rw [e1] at lk
  refine ⟨t',a',?_,by omega,by omega,by omega,q3.2⟩
  rw [Zmq]
  simp -implicitDefEqProofs only [go_sem,simprocAttr,Tryz.f71,x0,x1]
  simp only [pcs,List.map] at lk
  rw [lk]
  simp -implicitDefEqProofs only [go_sem,simprocAttr]
theorem Zo4 (h:Gd L a B) (hB:12≤B) (k:Int):∃ v a',R K (.call 110 [.ptr 0 0,I k] (St L a))=some (enc v,St L a')∧a≤a'∧a'≤a+12∧v.s.length≤2000∧v.s.count 41=0:=by
 by_cases k1:k=1
 ·subst k1
  have x0:=ZN h (by omega) 2
  refine ⟨⟨1,Zw L a 2,[]⟩,a+1,?_,by omega,by omega,by simp,rfl⟩
  rw [ZaA]
  simp -implicitDefEqProofs only [go_sem,simprocAttr,Tryz.f110,x0]
 have b1:(k==1)=false:=by simpa using k1
 by_cases k2:k=2
 ·subst k2
  obtain ⟨n,a',x0,q1,q2⟩:=ZtM h (by omega)
  refine ⟨⟨2,if 999999999999999 < (if n < -999999999999999 then -999999999999999 else n) then 999999999999999 else (if n < -999999999999999 then -999999999999999 else n),[]⟩,a',?_,by omega,by omega,by simp,rfl⟩
  rw [ZaA]
  simp -implicitDefEqProofs only [go_sem,simprocAttr,Tryz.f110,x0]
  all_goals rfl
 have b2:(k==2)=false:=by simpa using k2
 by_cases k3:k=3
 ·subst k3
  obtain ⟨s,a',x0,q1,q2,q3⟩:=ZqS h (by omega)
  by_cases hl:100 < s.length
  ·have d0:decide ((100:Int) < (s.length:Int))=true:=decide_eq_true (by omega)
   have d1:((100:Int)≤(s.length:Int))=True:=eq_true (by omega)
   have d2:(100:Int).toNat=100:=rfl
   refine ⟨⟨3,0,s.take 100⟩,a',?_,by omega,by omega,by simp;omega,Nat.eq_zero_of_le_zero (by show (s.take 100).count 41≤0;have:=List.Sublist.count_le (41:UInt8) (List.take_sublist 100 s);omega)⟩
   rw [ZaA]
   simp -implicitDefEqProofs only [go_sem,simprocAttr,Tryz.f110,x0,d0,d1,d2]
  ·have d0:decide ((100:Int) < (s.length:Int))=false:=decide_eq_false (by omega)
   refine ⟨⟨3,0,s⟩,a',?_,by omega,by omega,q3⟩
   rw [ZaA]
   simp -implicitDefEqProofs only [go_sem,simprocAttr,Tryz.f110,x0,d0]
 have b3:(k==3)=false:=by simpa using k3
 have x0:=W1 h (by omega) 0 2147483648 (by omega) (by omega) (by omega)
 have h1:=h.step (a+1) (B - 1) (by omega) (by omega)
 obtain ⟨x,_,p⟩:=ZaH h1 (by omega) [0,1,59,86399,86400,951782400,951868799,1709164800,1706659200,253402300799,Q1 L a 0 2147483648] (by simp) (by simp)
 simp only [List.map] at p
 refine ⟨⟨k,x,[]⟩,a+1+1,?_,by omega,by omega,by simp,rfl⟩
 rw [ZaA]
 simp -implicitDefEqProofs only [go_sem,simprocAttr,Tryz.f110,b1,b2,b3,x0,p]
theorem Znd (h:Gd L a B) (hB:13≤B) (k:Int):∃ v a',R K (.call 69 [.ptr 0 0,I k] (St L a))=some (enc v,St L a')∧a≤a'∧a'≤a+13∧v.s.length≤2000∧v.s.count 41=0:=by
 have x0:=Y5 h (by omega) 7
 have h1:=h.step (a+1) (B - 1) (by omega) (by omega)
 cases e0:Zw L a 7==0 with
 | true =>
  rw [e0] at x0
  refine ⟨Y3,a+1,?_,by omega,by omega,by simp [Y3],rfl⟩
  rw [ZmW]
  simp -implicitDefEqProofs only [go_sem,simprocAttr,Tryz.f69,x0]
  all_goals rfl
 | false =>
  rw [e0] at x0
  obtain ⟨v,a',x1,q1,q2,q3⟩:=Zo4 h1 (by omega) k
  refine ⟨v,a',?_,by omega,by omega,q3⟩
  rw [ZmW]
  simp -implicitDefEqProofs only [go_sem,simprocAttr,Tryz.f69,x0,x1]
theorem ZfK (h:Gd L a B) (hB:30≤B):∃ v a',R K (.call 33 [.ptr 0 0] (St L a))=some (enc v,St L a')∧a≤a'∧a'≤a+30∧v.s.length≤2001∧v.s.count 41=0:=by
 have x0:=W1 h (by omega) 1 4 (by omega) (by omega) (by omega)
 obtain ⟨v,a1,x1,q1,q2,q3⟩:=Znd (h.step (a+1) (B - 1) (by omega) (by omega)) (by omega) (Q1 L a 1 4)
 have h1:=h.step a1 (B - 14) (by omega) (by omega)
 have x2:=Y5 h1 (by omega) 8
 cases e0:Zw L a1 8==0 with
 | false =>
  rw [e0] at x2
  refine ⟨v,a1+1,?_,by omega,by omega,by omega,q3.2⟩
  rw [Zbe]
  simp -implicitDefEqProofs only [go_sem,simprocAttr,Tryz.f33,x0,x1,x2]
 | true =>
  rw [e0] at x2
  have h2:=h1.step (a1+1) (B - 15) (by omega) (by omega)
  have x3:=ZN h2 (by omega) 5
  have h3:=h2.step (a1+1+1) (B - 16) (by omega) (by omega)
  by_cases c0:Zw L (a1+1) 5=0
  ·obtain ⟨x,_,p⟩:=ZaH h3 (by omega) [-1,5,0,1,2,3,4] (by decide) (by decide)
   simp only [List.map] at p
   refine ⟨⟨x,v.n,v.s⟩,a1+1+1+1,?_,by omega,by omega,by simp only;omega,q3.2⟩
   rw [Zbe]
   simp -implicitDefEqProofs only [go_sem,simprocAttr,Tryz.f33,x0,x1,x2,x3,c0,p]
  have b0:(Zw L (a1+1) 5==0)=false:=by simpa using c0
  by_cases c1:Zw L (a1+1) 5=1
  ·obtain ⟨n,a2,p,r1,r2⟩:=ZtM h3 (by omega)
   refine ⟨⟨v.k,n,v.s⟩,a2,?_,by omega,by omega,by simp only;omega,q3.2⟩
   rw [Zbe]
   simp -implicitDefEqProofs only [go_sem,simprocAttr,Tryz.f33,x0,x1,x2,x3,c1,p]
  have b1:(Zw L (a1+1) 5==1)=false:=by simpa using c1
  by_cases c2:Zw L (a1+1) 5=2
  ·obtain ⟨s,a2,p,r1,r2,r3⟩:=ZqS h3 (by omega)
   refine ⟨⟨v.k,v.n,s⟩,a2,?_,by omega,by omega,by simp only;omega,r3.2⟩
   rw [Zbe]
   simp -implicitDefEqProofs only [go_sem,simprocAttr,Tryz.f33,x0,x1,x2,x3,c2,p]
  have b2:(Zw L (a1+1) 5==2)=false:=by simpa using c2
  by_cases c3:Zw L (a1+1) 5=3
  ·have k1:(v.s.length+1≤XT)=True:=eq_true (by unfold XT;omega)
   refine ⟨⟨v.k,v.n,v.s++[10]⟩,a1+1+1,?_,by omega,by omega,by simp;omega,by simp only;rw [List.count_append,q3.2];rfl⟩
   rw [Zbe]
   simp -implicitDefEqProofs only [go_sem,simprocAttr,Tryz.f33,x0,x1,x2,x3,c3,k1]
  have b3:(Zw L (a1+1) 5==3)=false:=by simpa using c3
  obtain ⟨x,hx,p⟩:=ZaH h3 (by omega) [100,101] (by decide) (by decide)
  have hxb:0≤x∧x≤101:=(by decide:∀ x∈([100,101]:List Int),0≤x∧x≤101) x hx
  have pr:=Zkq [122] x.toNat (by omega) (by simp)
  rw [Int.toNat_of_nonneg hxb.1] at pr
  simp only [List.map] at p
  refine ⟨⟨v.k,v.n,Lib.repeatL [122] x.toNat⟩,a1+1+1+1,?_,by omega,by omega,?_⟩
  ·rw [Zbe]
   simp -implicitDefEqProofs only [go_sem,simprocAttr,Tryz.f33,x0,x1,x2,x3,b0,b1,b2,b3,p,pr]
  ·simp only
   rw [Lib.repeatL_length]
   exact ⟨by simp;omega,ZkV _ rfl _⟩
theorem ZiX (h:Gd L a B) (hB:20≤B) (nm:List UInt8):∃ (c:Col) (a':Int),R K (.call 53 [.ptr 0 0,.str nm] (St L a))=some (.agg (ZO c),St L a')∧a≤a'∧a'≤a+20∧c.nm=nm:=by
 obtain ⟨x,hx,p⟩:=ZaH h (by omega) [2,2,3,1,4] (by decide) (by decide)
 simp only [List.map] at p
 have h1:=h.step (a+1) (B - 1) (by omega) (by omega)
 have x1:=Y5 h1 (by omega) 2
 have h2:=h1.step (a+1+1) (B - 2) (by omega) (by omega)
 have x2:=Y5 h2 (by omega) 4
 have h3:=h2.step (a+1+1+1) (B - 3) (by omega) (by omega)
 generalize (Zw L (a+1) 2==0)=b1 at *
 cases e2:Zw L (a+1+1) 4==0 with
 | true =>
  rw [e2] at x2
  obtain ⟨v,a',x3,q1,q2,_⟩:=Znd h3 (by omega) x
  simp only [enc] at x3
  refine ⟨⟨nm,x,b1,v⟩,a',?_,by omega,by omega,rfl⟩
  rw [Zl0]
  simp -implicitDefEqProofs only [go_sem,simprocAttr,Tryz.f53,p,x1,x2,x3,ZO]
 | false =>
  rw [e2] at x2
  refine ⟨⟨nm,x,b1,⟨0,0,[]⟩⟩,a+1+1+1,?_,by omega,by omega,rfl⟩
  rw [Zl0]
  simp -implicitDefEqProofs only [go_sem,simprocAttr,Tryz.f53,p,x1,x2,ZO]
def WJ (l:List Int):List (List AV):=l.map fun x=>[I x]
def Zli (n:Nat) (l:List Int):Prop:=l.length=n∧∀ x∈l,0≤x∧x < (n:Int)
theorem ZjP (l:List Int):(WJ l).length=l.length:=by simp [WJ]
theorem Zpq (l:List Int) (x:Int):WJ l++[[I x]]=WJ (l++[x]):=by simp [WJ]
theorem Zbu {l:List Int} {i:Nat} {x:Int} (h:l[i]? = some x):(WJ l)[i]? = some [I x]:=by simp [WJ,h]
theorem ZoT (l:List Int) (i:Nat) (x:Int):(WJ l).set i [I x]=WJ (l.set i x):=by simp [WJ,List.map_set]
theorem WS:∀ l:List Int,ZL (WJ l)=[]
 | []=>rfl
 | x::l=>by simpa [WJ,ZL,Zk,Zm] using WS l
theorem Zqi (n:Nat) (hn:n≤20):∀ (q j:Nat) (l:List Int),n=j+q→l.length=j→(∀ x∈l,0≤x∧x < (n:Int))→∃ l',Zli n l'∧∀ (ks:List It) (Bo:Code) (jj:Int),Zf Tryz.f54 0 Bo→jj=(j:Int) →
  RL K (.run 54 1 (.code Bo::.lp Bo (some ([0,1,5,9,10],[])) 2::.blk 0 2::ks) [(0,.ptr 0 0),(1,I (n:Int)),(5,.own 1 l.length),(9,I (n:Int)),(10,I jj)] [.cells [LR L,I a],.rows 1 (WJ l) true]) =
  R K (.run 54 1 ks [(0,.ptr 0 0),(1,I (n:Int)),(5,.own 1 n)] [.cells [LR L,I a],.rows 1 (WJ l') true])
 | 0,j,l,hq,hl,hx=>by
  have d:¬(j:Int) < (n:Int):=by omega
  have e:l.length=n:=by omega
  refine ⟨l,⟨e,hx⟩,fun ks Bo jj hB hj=>?_⟩
  subst hj
  unfold Zf at hB
  simp -implicitDefEqProofs only [go_sem,simprocAttr,Tryz.f54,Zb] at hB
  subst hB
  rw [Zc]
  simp -implicitDefEqProofs only [go_sem,simprocAttr,d,WS,e]
 | q+1,j,l,hq,hl,hx=>by
  have d:(j:Int) < (n:Int):=by omega
  have h7:=Zs (i:=j) (n:=n) (by omega) (by omega)
  obtain ⟨l',p,ih⟩:=Zqi n hn q (j+1) (l++[(j:Int)]) (by omega) (by simp [hl]) (fun x hx'=>by
   rcases List.mem_append.1 hx' with h | h
   ·exact hx x h
   ·rw [List.mem_singleton] at h;omega)
  refine ⟨l',p,fun ks Bo jj hB hj=>?_⟩
  subst hj
  have ih:=ih ks Bo _ hB rfl
  have rm:((l.length+1)*9≤Zg)=True:=eq_true (by unfold Zg;omega)
  simp only [List.length_append,List.length_cons,List.length_nil,Nat.zero_add] at ih
  unfold Zf at hB
  simp -implicitDefEqProofs only [go_sem,simprocAttr,Tryz.f54,Zb] at hB
  subst hB
  rw [Zc]
  simp -implicitDefEqProofs only [go_sem,simprocAttr,d,h7,WS,ZjP,Zpq,rm]
  exact ih
theorem Zp6 {n:Nat} {l:List Int} (h:Zli n l) (i:Nat) {x:Int} (hx:x∈l):Zli n (l.set i x):=by
 refine ⟨by rw [List.length_set];exact h.1,fun y hy=>?_⟩
 rcases List.mem_or_eq_of_mem_set hy with h1 | h1
 ·exact h.2 y h1
 ·rw [h1];exact h.2 x hx
theorem ZpP (n:Nat) (hn:n≤20):∀ (i:Nat) (l:List Int) (a B:Int),i < n→Gd L a B→(i:Int)≤B→Zli n l→∃ (l':List Int) (a':Int),a≤a'∧a'≤a+i∧Zli n l'∧∀ (ks:List It) (Bo:Code),Zf Tryz.f54 2 Bo →
  RL K (.run 54 1 (.code Bo::.lp Bo (some ([0,5,7],[])) 2::.blk 2 2::ks) [(0,.ptr 0 0),(5,.own 1 n),(7,I (i:Int))] [.cells [LR L,I a],.rows 1 (WJ l) true]) =
  R K (.run 54 1 ks [(5,.own 1 n)] [.cells [LR L,I a'],.rows 1 (WJ l') true])
 | 0,l,a,B,hi,hG,hB',hl=>by
  refine ⟨l,a,by omega,by omega,hl,fun ks Bo hB=>?_⟩
  unfold Zf at hB
  simp -implicitDefEqProofs only [go_sem,simprocAttr,Tryz.f54,Zb] at hB
  subst hB
  rw [Zc]
  simp -implicitDefEqProofs only [go_sem,simprocAttr,WS]
 | i+1,l,a,B,hi,hG,hB',hl=>by
  have hx0:=ZN hG (by omega) ((i:Int)+1+1)
  have b0:=Zu L a ((i:Int)+1+1) (by omega) (by omega)
  obtain ⟨k,hk⟩:∃ k:Nat,Zw L a ((i:Int)+1+1)=(k:Int):=⟨(Zw L a ((i:Int)+1+1)).toNat,by omega⟩
  rw [hk] at hx0 b0
  have hll:=hl.1
  obtain ⟨xi,hxi⟩:=Ze (l:=l) (i:=i+1) (by omega)
  obtain ⟨xk,hxk⟩:=Ze (l:=l) (i:=k) (by omega)
  have mi:=List.mem_of_getElem? hxi
  have mk:=List.mem_of_getElem? hxk
  have l1:=Zp6 hl (i+1) mk
  have hxi1:xi∈l.set (i+1) xk∨True:=.inr trivial
  obtain ⟨z,hz⟩:=Ze (l:=l.set (i+1) xk) (i:=k) (by rw [List.length_set];omega)
  have l2:Zli n ((l.set (i+1) xk).set k xi):=by
   refine ⟨by rw [List.length_set,List.length_set];exact hl.1,fun y hy=>?_⟩
   rcases List.mem_or_eq_of_mem_set hy with h1 | h1
   ·exact l1.2 y h1
   ·rw [h1];exact hl.2 xi mi
  obtain ⟨l',a',q1,q2,q3,ih⟩:=ZpP n hn i ((l.set (i+1) xk).set k xi) (a+1) (B - 1) (by omega) (hG.step _ _ (by omega) (by omega)) (by omega) l2
  refine ⟨l',a',by omega,by omega,q3,fun ks Bo hB=>?_⟩
  have ih:=ih ks Bo hB
  have c1:(((i+1:Nat):Int))=(i:Int)+1:=by omega
  have w1:ZC .i64 ((i:Int)+1+1)=(i:Int)+1+1:=ZV (by omega) (by omega)
  have w2:ZC .i64 ((i:Int)+1 - 1)=(i:Int):=by rw [ZV (by omega) (by omega)];omega
  have d:((i:Int)+1 > 0)=True:=eq_true (by omega)
  have d2:((0:Int) < (i:Int)+1)=True:=eq_true (by omega)
  have ai:at? (WJ l) ((i:Int)+1)=some [I xi]:=by
   have:=Z2 (Zbu hxi);rw [c1] at this;exact this
  have ak:=Z2 (Zbu hxk)
  have bi:=Zbu hxi
  have bk:=Zbu hxk
  have bz:=Zbu hz
  have az:=Z2 bz
  have ti:((i:Int)+1).toNat=i+1:=by omega
  have sp:∀ b c:Int,splice [I b] 0 [I c]=[I c]:=fun _ _=>rfl
  have n1:(WJ l).length=n:=by rw [ZjP];exact hl.1
  have n2:(WJ (l.set (i+1) xk)).length=n:=by rw [ZjP];exact l1.1
  rw [c1]
  unfold Zf at hB
  simp -implicitDefEqProofs only [go_sem,simprocAttr,Tryz.f54,Zb] at hB
  subst hB
  rw [Zc]
  simp -implicitDefEqProofs only [go_sem,simprocAttr,hx0,w1,w2,d,d2,ai,ak,bi,bk,bz,az,ti,sp,n1,n2,ZoT,WS,Int.toNat_natCast]
  exact ih
theorem Zth (h:Gd L a B) (n:Nat) (h1:1≤n) (hn:n≤20) (hB:20≤B):∃ (l:List Int) (a':Int),Zli n l∧a≤a'∧a'≤a+20∧R K (.call 54 [.ptr 0 0,I (n:Int)] (St L a))=some (.rows (WJ l),St L a'):=by
 obtain ⟨l0,p0,e0⟩:=Zqi (L:=L) (a:=a) n hn n 0 [] (by omega) rfl (by simp)
 obtain ⟨l,a',q1,q2,q3,e2⟩:=ZpP (L:=L) n hn (n - 1) l0 a B (by omega) h (by omega) p0
 have w:ZC .i64 ((n:Int) - 1)=((n - 1:Nat):Int):=by rw [ZV (by omega) (by omega)];omega
 have nl:(WJ l).length=n:=by rw [ZjP];exact q3.1
 refine ⟨l,a',q3,q1,by omega,?_⟩
 rw [show WJ []=[] from rfl,List.length_nil] at e0
 rw [ZrJ]
 simp -implicitDefEqProofs only [go_sem,simprocAttr,Tryz.f54]
 rw [e0 _ _ 0 ?_ rfl]
 ·simp -implicitDefEqProofs only [go_sem,simprocAttr,w]
  rw [e2 _ _ ?_]
  ·simp -implicitDefEqProofs only [go_sem,simprocAttr,WS,nl,true_or]
  ·rfl
 ·rfl
end
abbrev idB:List UInt8:=[105,100]
abbrev kB:List UInt8:=[107]
abbrev Zjp:Col:=⟨[105,100],2,false,⟨0,0,[]⟩⟩
abbrev Zog:Blk:=.cells [.str [],.nils,.nils,.nils,.nils]
theorem Zy:∀ l:List Col,ZL (l.map ZO)=[]
 | []=>rfl
 | x::l=>by simpa [ZO,ZL,Zk,Zm] using Zy l
theorem Zq8 (l:List Col) (c:Col):l.map ZO++[ZO c]=(l++[c]).map ZO:=by simp
theorem ZfE (j:Nat) (hj:j≤10):∃ s:List UInt8,(Utf8.encode (ZC .i32 (97+(j:Int)))).data.toList=s∧s.length≤4:=by
 refine ⟨_,rfl,?_⟩
 have h:∀ n:Fin 11,(Utf8.encode (ZC .i32 (97+(n.val:Int)))).data.toList.length≤4:=by decide
 exact h ⟨j,by omega⟩
structure ColsOk (cols:List Col) (m:Nat):Prop where
 len:cols.length≤m
 pos:1≤cols.length
 nm:∀ c∈cols,c.nm.length≤100
 id:idB∈cols.map (·.nm)
theorem ColsOk.add {cols:List Col} {m:Nat} (h:ColsOk cols m) (c:Col) (hc:c.nm.length≤100):ColsOk (cols++[c]) (m+1):=by
 refine ⟨by simp;exact h.len,by simp,fun d hd=>?_,by rw [List.map_append];exact List.mem_append_left _ h.id⟩
 rcases List.mem_append.1 hd with h1 | h1
 ·exact h.nm d h1
 ·rw [List.mem_singleton] at h1;rw [h1];exact hc
section
variable {L:List Int}
theorem Zrd (nm:List UInt8) (r:Nat) (hr:r≤4) (kv:AV) (kt:Zd) (m:Nat) (hs:(kv=.lit (SLs [idB])∧kt=[]∧m=3)∨(kv=.own 4 2∧kt=[.rows 1 (SLs [idB,kB]) false]∧m=5)):∀ (q j:Nat) (cols:List Col) (a B:Int) (u:Nat),r=j+q→u+q≤10→Gd L a B→(20*q:Int)≤B→ColsOk cols u →
  ∃ (cols':List Col) (a':Int),a≤a'∧a'≤a+20*q∧ColsOk cols' (u+q)∧(∀ n∈cols.map (·.nm),n∈cols'.map (·.nm))∧∀ (ks:List It) (Bo:Code) (jj:Int),Zf Tryz.f14 0 Bo→jj=(j:Int) →
  RL K (.run 14 1 (.code Bo::.lp Bo (some ([0,4,5,33,34],[])) m::.blk 0 m::ks) [(0,.ptr 0 0),(4,.ptr 1 0),(5,.ptr 2 0),(33,I (r:Int)),(34,I jj)] (.cells [LR L,I a]::Zog::.cells [.str nm,.own 3 cols.length,kv,.nils,.nils]::.rows 6 (cols.map ZO) true::kt)) =
  R K (.run 14 1 ks [(0,.ptr 0 0),(4,.ptr 1 0),(5,.ptr 2 0)] (.cells [LR L,I a']::Zog::.cells [.str nm,.own 3 cols'.length,kv,.nils,.nils]::.rows 6 (cols'.map ZO) true::kt))
 | 0,j,cols,a,B,u,hq,hu,hG,hB',hc=>by
  have d:¬(j:Int) < (r:Int):=by omega
  refine ⟨cols,a,by omega,by omega,hc,fun n hn=>hn,fun ks Bo jj hB hj=>?_⟩
  subst hj
  rcases hs with ⟨rfl,rfl,rfl⟩ | ⟨rfl,rfl,rfl⟩
  ·unfold Zf at hB
   simp -implicitDefEqProofs only [go_sem,simprocAttr,Tryz.f14,Zb] at hB
   subst hB
   rw [Zc]
   simp -implicitDefEqProofs only [go_sem,simprocAttr,d,Zy,Zq]
  ·unfold Zf at hB
   simp -implicitDefEqProofs only [go_sem,simprocAttr,Tryz.f14,Zb] at hB
   subst hB
   rw [Zc]
   simp -implicitDefEqProofs only [go_sem,simprocAttr,d,Zy,Zq]
 | q+1,j,cols,a,B,u,hq,hu,hG,hB',hc=>by
  have d:(j:Int) < (r:Int):=by omega
  have h7:=Zs (i:=j) (n:=r) (by omega) (by omega)
  obtain ⟨s,es,hsl⟩:=ZfE j (by omega)
  have w1:ZC .i64 (97+(j:Int))=97+(j:Int):=ZV (by omega) (by omega)
  obtain ⟨c,a1,x1,q1,q2,q3⟩:=ZiX hG (by omega) (99::s)
  obtain ⟨cols',a',p1,p2,p3,p4,ih⟩:=Zrd nm r hr kv kt m hs q (j+1) (cols++[c]) a1 (B - 20) (u+1) (by omega) (by omega) (hG.step _ _ (by omega) (by omega)) (by omega) (hc.add c (by rw [q3];simp;omega))
  refine ⟨cols',a',by omega,by omega,by rw [show u+(q+1)=u+1+q by omega];exact p3,fun n hn=>p4 n (by rw [List.map_append];exact List.mem_append_left _ hn),fun ks Bo jj hB hj=>?_⟩
  subst hj
  have ih:=ih ks Bo _ hB rfl
  have hcl:=hc.len
  have ca:=Zq8 cols c
  have al:=Wi cols
  have rm:((cols.length+1)*65≤Zg)=True:=eq_true (by unfold Zg;omega)
  have st:(1+s.length≤XT)=True:=eq_true (by unfold XT;omega)
  simp only [List.length_append,List.length_cons,List.length_nil,Nat.zero_add,ZO] at ih x1 ca
  rcases hs with ⟨rfl,rfl,rfl⟩ | ⟨rfl,rfl,rfl⟩
  ·unfold Zf at hB
   simp -implicitDefEqProofs only [go_sem,simprocAttr,Tryz.f14,Zb] at hB
   subst hB
   rw [Zc]
   simp -implicitDefEqProofs only [go_sem,simprocAttr,d,h7,w1,es,x1,ca,al,rm,st,ZO,Zy,Zq,List.length_map]
   exact ih
  ·unfold Zf at hB
   simp -implicitDefEqProofs only [go_sem,simprocAttr,Tryz.f14,Zb] at hB
   subst hB
   rw [Zc]
   simp -implicitDefEqProofs only [go_sem,simprocAttr,d,h7,w1,es,x1,ca,al,rm,st,ZO,Zy,Zq,List.length_map]
   exact ih
end
theorem YJ:∀ l:List Idx,ZL (l.map ZT)=[]
 | []=>rfl
 | x::l=>by simpa [ZT,ZL,Zk,Zm] using YJ l
theorem ZcL (l:List Idx) (c:Idx):l.map ZT++[ZT c]=(l++[c]).map ZT:=by simp
theorem ZhR:SLs []=[]:=rfl
theorem Znq (l:List Int) (k:Nat):List.take k (WJ l)=WJ (l.take k):=by simp [WJ,List.map_take]
theorem Zeg:∀ l:List Int,YB 1 (WJ l)=true
 | []=>rfl
 | x::l=>by simpa [WJ,YB] using Zeg l
def TbS (cols:List Col) (key:List (List UInt8)) (cv kv:AV) (g:Zd):Prop :=
 (cv=.lit (cols.map ZO)∧kv=.lit (SLs key)∧g=[])∨(cv=.rows (cols.map ZO)∧kv=.lit (SLs key)∧g=[.hole])∨(cv=.rows (cols.map ZO)∧kv=.rows (SLs key)∧g=[.hole,.hole])
end Go.Ab
