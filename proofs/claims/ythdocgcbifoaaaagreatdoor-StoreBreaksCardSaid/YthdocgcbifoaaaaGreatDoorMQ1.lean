/- What is proved: contracts of the program's and the reference's functions in the evaluator, and plain laws on them. Conditions: as each states. -/
import Derived.Test.YthdocgcbifoaaaaGreatDoorMC
import Derived.IntWalk
set_option linter.unusedSimpArgs false
set_option linter.unusedSectionVars false
set_option linter.unusedVariables false
set_option maxRecDepth 100000
namespace Go.Ab
open Go Go.Proofs
structure Val where
 k:Int
 n:Int
 s:List UInt8
 deriving DecidableEq
@[go_sem] def enc (v:Val):AV:=.agg [.int .i64 v.k,.int .i64 v.n,.str v.s]
@[go_sem] theorem Val.eta (v:Val):Val.mk v.k v.n v.s=v:=rfl
def null:Val:=⟨0,0,[]⟩
def loopOf:Code→Nat→Option Code
 | .seq a b,i=>match loopOf a i with
  | some c=>some c
  | none=>loopOf b i
 | .cond _ a b,i=>match loopOf a i with
  | some c=>some c
  | none=>loopOf b i
 | .block j c,i=>if j=i then (match c with
  | .loop b=>some b
  | _=>none) else loopOf c i
 | .loop c,i=>loopOf c i
 | _,_=>none
def Loop (f:Func) (i:Nat) (B:Code):Prop:=loopOf (f.body.getD .skip) i=some B
@[go_sem] theorem wrap_id {n:Int} (h1:-9223372036854775808≤n) (h2:n≤9223372036854775807):wrapI .i64 n=n:=by
 exact IntWalk.i64_in _ ⟨h1,h2⟩
theorem at_get {α:Type} {l:List α} {i:Nat} {x:α} (h:l[i]? = some x):at? l (i:Int)=some x:=by
 simp [at?,h]
theorem byte_get {s:List UInt8} {i:Nat} {b:UInt8} (h:s[i]? = some b):at? s (i:Int)=some b:=at_get h
theorem drop_get {α:Type} {l:List α} {i:Nat} {x:α} (h:l[i]? = some x):l.drop i=x::l.drop (i+1):=by
 obtain ⟨h1,h2⟩:=List.getElem?_eq_some_iff.1 h
 rw [List.drop_eq_getElem_cons h1,h2]
abbrev Mx:=Nat→Nat→Bool
def wStep (k:Nat) (r:Mx):Mx:=fun i j=>r i j||(r i k&&r k j)
def wIter (r:Mx):Nat→Mx
 | 0=>r
 | k+1=>wStep k (wIter r k)
theorem wStep_le {k:Nat} {r:Mx} {i j:Nat} (h:r i j=true):wStep k r i j=true:=by simp [wStep,h]
theorem wIter_le {r:Mx} {i j:Nat} (h:r i j=true):∀ k,wIter r k i j=true
 | 0=>h
 | k+1=>wStep_le (wIter_le h k)
theorem wStep_col (k:Nat) (r:Mx) (i:Nat):wStep k r i k=r i k:=by
 simp only [wStep]
 cases r i k<;>simp
theorem wStep_row (k:Nat) (r:Mx) (j:Nat):wStep k r k j=r k j:=by
 simp only [wStep]
 cases r k j<;>simp
def Tr (r:Mx) (k:Nat):Prop:=∀ m,m < k→∀ i j,r i m=true→r m j=true→r i j=true
theorem wStep_tr {r:Mx} {k:Nat} (h:Tr r k):Tr (wStep k r) (k+1):=by
 intro m hm i j h1 h2
 by_cases e:m=k
 ·subst e
  rw [wStep_col] at h1
  rw [wStep_row] at h2
  simp [wStep,h1,h2]
 ·have hm:m < k:=by omega
  simp only [wStep,Bool.or_eq_true,Bool.and_eq_true] at h1 h2 ⊢
  rcases h1 with h1 | ⟨h1,h3⟩
  ·rcases h2 with h2 | ⟨h2,h4⟩
   ·exact .inl (h m hm i j h1 h2)
   ·exact .inr ⟨h m hm i k h1 h2,h4⟩
  ·rcases h2 with h2 | ⟨h2,h4⟩
   ·exact .inr ⟨h1,h m hm k j h3 h2⟩
   ·exact .inr ⟨h1,h4⟩
theorem wIter_tr (r:Mx):∀ k,Tr (wIter r k) k
 | 0=>fun m hm=>absurd hm (by omega)
 | k+1=>wStep_tr (wIter_tr r k)
def mixM (k:Nat) (r:Mx) (i j:Nat):Mx:=fun a b=>if a < i∨(a=i∧b < j) then wStep k r a b else r a b
theorem mix_own (k:Nat) (r:Mx) (i j:Nat):mixM k r i j i j=r i j:=if_neg (by omega)
theorem mix_col (k:Nat) (r:Mx) (i j a:Nat):mixM k r i j a k=r a k:=by
 unfold mixM
 split
 ·exact wStep_col k r a
 ·rfl
theorem mix_row (k:Nat) (r:Mx) (i j b:Nat):mixM k r i j k b=r k b:=by
 unfold mixM
 split
 ·exact wStep_row k r b
 ·rfl
theorem mix_next (k:Nat) (r:Mx) (i j a b:Nat):mixM k r i (j+1) a b=if a=i∧b=j then wStep k r i j else mixM k r i j a b:=by
 unfold mixM
 by_cases h:a=i∧b=j
 ·obtain ⟨rfl,rfl⟩:=h
  rw [if_pos (by omega),if_pos ⟨rfl,rfl⟩]
 ·rw [if_neg h]
  by_cases h2:a < i∨(a=i∧b < j)
  ·rw [if_pos h2,if_pos (by omega)]
  ·rw [if_neg h2,if_neg (by omega)]
theorem countP_lt {α:Type} (p q:α→Bool):∀ l:List α,(∀ x∈l,p x=true→q x=true)→(∃ x∈l,q x=true∧p x=false)→l.countP p < l.countP q
 | [],_,h=>by obtain ⟨x,hx,_⟩:=h;simp at hx
 | a::l,h1,h2=>by
  have hle:l.countP p≤l.countP q:=List.countP_mono_left fun x hx=>h1 x (List.mem_cons_of_mem _ hx)
  obtain ⟨x,hx,h3,h4⟩:=h2
  rcases List.mem_cons.1 hx with rfl | hx
  ·rw [List.countP_cons_of_neg (by simp [h4]),List.countP_cons_of_pos h3]
   omega
  ·have ih:=countP_lt p q l (fun x hx=>h1 x (List.mem_cons_of_mem _ hx)) ⟨x,hx,h3,h4⟩
   simp only [List.countP_cons]
   have:=h1 a (by simp)
   cases hp:p a with
   | false=>simp only [Bool.false_eq_true,if_false];omega
   | true=>simp only [this hp,if_true];omega
def waitB (r:Mx) (ts:List Nat) (st:Nat→Bool) (i:Nat):Bool:=ts.any fun j=>!(j==i)&&!st j&&!(r i j&&r j i)
theorem some_free (n:Nat) (r:Mx) (F:Nat→List Nat) (st:Nat→Bool) (hr:Tr r n) (hF:∀ i,i < n→∀ j∈F i,j < n∧r i j=true) :
  ∀ (c i:Nat),i < n→st i=false→(List.range n).countP (fun x=>r i x&&!r x i)≤c→∃ i,i < n∧st i=false∧waitB r (F i) st i=false
 | 0,i,hi,hs,hc=>by
  refine ⟨i,hi,hs,?_⟩
  cases hw:waitB r (F i) st i with
  | false=>rfl
  | true =>
   obtain ⟨j,hj,h⟩:=List.any_eq_true.1 hw
   obtain ⟨h1,h2⟩:=hF i hi j hj
   simp only [Bool.and_eq_true,Bool.not_eq_true',Bool.and_eq_false_iff] at h
   have h3:r j i=false:=h.2.resolve_left (by simp [h2])
   have:=List.countP_eq_zero.1 (Nat.le_zero.1 hc) j (List.mem_range.2 h1)
   simp [h2,h3] at this
 | c+1,i,hi,hs,hc=>by
  cases hw:waitB r (F i) st i with
  | false=>exact ⟨i,hi,hs,hw⟩
  | true =>
   obtain ⟨j,hj,h⟩:=List.any_eq_true.1 hw
   obtain ⟨h1,h2⟩:=hF i hi j hj
   simp only [Bool.and_eq_true,Bool.not_eq_true',Bool.and_eq_false_iff] at h
   have h3:r j i=false:=h.2.resolve_left (by simp [h2])
   refine some_free n r F st hr hF c j h1 h.1.2 ?_
   have:=countP_lt (fun x=>r j x&&!r x j) (fun x=>r i x&&!r x i) (List.range n) (fun x hx hp=>?_) ⟨j,List.mem_range.2 h1,by simp [h2,h3],by simp⟩
   ·omega
   ·simp only [Bool.and_eq_true,Bool.not_eq_true'] at hp ⊢
    refine ⟨hr j h1 i x h2 hp.1,?_⟩
    cases e:r x i with
    | false=>rfl
    | true=>have:=hr i hi x j e h2;rw [hp.2] at this;simp at this
theorem nodup_le:∀ (n:Nat) (o:List Nat),(∀ i,i < n→i∈o)→n≤o.length
 | 0,_,_=>Nat.zero_le _
 | n+1,o,h=>by
  have h1:=nodup_le n (o.erase n) fun i hi=>(List.mem_erase_of_ne (by omega)).2 (h i (by omega))
  have h2:=List.length_erase_of_mem (h n (by omega))
  have h3:0 < o.length:=List.length_pos_of_mem (h n (by omega))
  omega
theorem not_all (o:List Nat) (n:Nat) (hl:o.length < n):∃ i,i < n∧o.contains i=false:=by
 refine Classical.byContradiction fun hne=>?_
 have hall:∀ i,i < n→i∈o:=fun i hi=>by
  cases h:o.contains i with
  | true=>simpa using h
  | false=>exact absurd ⟨i,hi,h⟩ hne
 have:=nodup_le n o hall
 omega
structure Col where
 nm:List UInt8
 kd:Int
 nl:Bool
 df:Val
structure Fgn where
 nm:List UInt8
 cols:List (List UInt8)
 tb:List UInt8
structure Idx where
 nm:List UInt8
 cols:List (List UInt8)
 uq:Bool
structure Tbl where
 nm:List UInt8
 cols:List Col
 key:List (List UInt8)
 fgn:List Fgn
 idx:List Idx
abbrev SLs (l:List (List UInt8)):List (List AV):=l.map fun s=>[AV.str s]
def colC (c:Col):List AV:=[.str c.nm,.int .i64 c.kd,.bool c.nl,.int .i64 c.df.k,.int .i64 c.df.n,.str c.df.s]
def fgnC (f:Fgn):List AV:=[.str f.nm,.rows (SLs f.cols),.str f.tb]
def idxC (x:Idx):List AV:=[.str x.nm,.rows (SLs x.cols),.bool x.uq]
def tblC (t:Tbl):List AV:=[.str t.nm,.rows (t.cols.map colC),.rows (SLs t.key),.rows (t.fgn.map fgnC),.rows (t.idx.map idxC)]
abbrev schC (ts:List Tbl):AV:=.agg [.rows (ts.map tblC)]
def evE (e:Nat→Int):Nat→Nat→Int
 | _,0=>0
 | j,m+1=>if e j=0 then evE e (j+1) m else e j
def orE (a b:Int):Int:=if a=0 then b else a
def ixN (n:List UInt8):List (List UInt8)→Nat→Int
 | [],_=>-1
 | m::r,i=>if m=n then (i:Int) else ixN n r (i+1)
theorem ixN_lt (n:List UInt8):∀ (l:List (List UInt8)) (i:Nat),ixN n l i < ((i+l.length:Nat):Int)
 | [],i=>by simp [ixN];omega
 | m::r,i=>by
  unfold ixN
  split
  ·simp only [List.length_cons];omega
  ·have:=ixN_lt n r (i+1)
   simp only [List.length_cons] at this ⊢
   omega
theorem ixN_ge (n:List UInt8):∀ (l:List (List UInt8)) (i:Nat),ixN n l i=-1∨(i:Int)≤ixN n l i
 | [],i=>.inl rfl
 | m::r,i=>by
  unfold ixN
  split
  ·exact .inr (Int.le_refl _)
  ·rcases ixN_ge n r (i+1) with h | h
   ·exact .inl h
   ·exact .inr (by omega)
theorem ixN_mem (n:List UInt8):∀ (l:List (List UInt8)) (i:Nat),ixN n l i=-1↔n∉l
 | [],i=>by simp [ixN]
 | m::r,i=>by
  unfold ixN
  split
  ·rename_i h;subst h;simp
  ·rename_i h
   rw [ixN_mem n r (i+1)]
   simp [show ¬n=m from fun e=>h e.symm]
theorem ixN_take (n:List UInt8):∀ (l:List (List UInt8)) (i k:Nat),n∈l→(ixN n l i < ((i+k:Nat):Int)↔n∈l.take k)
 | [],i,k,h=>by simp at h
 | m::r,i,0,h=>by
  simp only [Nat.add_zero,List.take_zero,List.not_mem_nil,iff_false,Int.not_lt]
  rcases ixN_ge n (m::r) i with h1 | h1
  ·exact absurd h ((ixN_mem n _ _).1 h1)
  ·exact h1
 | m::r,i,k+1,h=>by
  unfold ixN
  split
  ·rename_i e;subst e;simp;omega
  ·rename_i e
   have hr:n∈r:=by
    rcases List.mem_cons.1 h with h | h
    ·exact absurd h.symm e
    ·exact h
   rw [show i+(k+1)=(i+1)+k by omega,ixN_take n r (i+1) k hr]
   simp [show ¬n=m from fun e'=>e e'.symm]
theorem ixN_at (n:List UInt8):∀ (l:List (List UInt8)) (i j:Nat),ixN n l i=(j:Int)→i≤j∧l[j - i]? = some n
 | [],i,j,h=>by simp [ixN] at h
 | m::r,i,j,h=>by
  unfold ixN at h
  split at h
  ·rename_i e
   have:i=j:=by omega
   subst this;subst e
   simp
  ·obtain ⟨h1,h2⟩:=ixN_at n r (i+1) j h
   refine ⟨by omega,?_⟩
   rw [show j - i=(j - (i+1))+1 by omega,List.getElem?_cons_succ]
   exact h2
def chB (o:List UInt8) (c:UInt8):Bool:=(decide (97≤c.toNat)&&decide (c.toNat≤122))||(decide (48≤c.toNat)&&decide (c.toNat≤57))||o.contains c
def nameB (o:List UInt8) (m:Nat) (s:List UInt8):Bool:=match s with
 | []=>false
 | c::_=>s.all (chB o)&&decide (s.length≤m)&&(decide (97≤c.toNat)&&decide (c.toNat≤122))
abbrev tallB (s:List UInt8):Bool:=nameB [95] 40 s
def ordE (s b:List UInt8) (first:Bool):Int:=if tallB s=false then 5 else if first=false∧(Op.bytesLess s b=true∨s=b) then 7 else 0
abbrev I (n:Int):AV:=.int .i64 n
attribute [go_sem] callIn conv convL reach posOf sub renB renL ren back afterIn outer List.contains_cons List.contains_nil List.map_cons List.map_nil List.take_length ite_self
def Tells (h:Heap) (f:AV) (e:Nat→Int) (n:Nat):Prop:=∀ i,i < n→callV nlA (R K) h [I (i:Int)] f=some (I (e i),h)
theorem l_every (f:AV) (h:Heap) (e:Nat→Int) (n:Nat) (hn:n≤1000000) (hu:under h.length (locsH h)=true) (hc:Tells h f e n) (ks:List It):∀ (q j:Nat) (i:Int) (Bo:Code),Loop Tryz.f75 0 Bo→i=(j:Int)→n=j+q →
  RL K (.run 75 h.length (.code Bo::.lp Bo (some ([1,7,8],[])) h.length::.blk 0 h.length::ks) [(1,f),(7,I (n:Int)),(8,I i)] h) =
  if evE e j q=0 then R K (.run 75 h.length ks [] h) else some (I (evE e j q),h)
 | 0,j,i,Bo,hB,hi,hq=>by
  subst hi
  have d:¬(j:Int) < (n:Int):=by omega
  unfold Loop at hB
  simp -implicitDefEqProofs only [go_sem,simprocAttr,Tryz.f75,loopOf] at hB
  subst hB
  rw [RL_eq]
  simp -implicitDefEqProofs only [go_sem,simprocAttr,d,evE]
 | q+1,j,i,Bo,hB,hi,hq=>by
  subst hi
  have hB':=hB
  have d:(j:Int) < (n:Int):=by omega
  have h7:wrapI .i64 ((j:Int)+1)=((j+1:Nat):Int):=by rw [wrap_id (by omega) (by omega)];omega
  have hx:=hc j (by omega)
  have ih:=l_every f h e n hn hu hc ks q (j+1) _ Bo hB' rfl (by omega)
  by_cases hk:e j=0
  ·have e1:evE e j (q+1)=evE e (j+1) q:=by simp only [evE];rw [if_pos hk]
   rw [e1]
   unfold Loop at hB
   simp -implicitDefEqProofs only [go_sem,simprocAttr,Tryz.f75,loopOf] at hB
   subst hB
   rw [RL_eq]
   simp -implicitDefEqProofs only [go_sem,simprocAttr,d,h7,hx,hk,bne]
   rw [ih]
  ·have e1:evE e j (q+1)=e j:=by simp only [evE];rw [if_neg hk]
   have dk:(e j==0)=false:=by simpa using hk
   rw [e1,if_neg hk]
   unfold Loop at hB
   simp -implicitDefEqProofs only [go_sem,simprocAttr,Tryz.f75,loopOf] at hB
   subst hB
   rw [RL_eq]
   simp -implicitDefEqProofs only [go_sem,simprocAttr,d,h7,hx,dk,bne,hu]
theorem c_every (f:AV) (h:Heap) (e:Nat→Int) (n:Nat) (hn:n≤1000000) (hu:under h.length (locsH h)=true) (hc:Tells h f e n):R K (.call 75 [I (n:Int),f] h)=some (I (evE e 0 n),h):=by
 have lk:=fun ks B hB=>l_every f h e n hn hu hc ks n 0 0 B hB rfl (by omega)
 rw [call_75]
 simp -implicitDefEqProofs only [go_sem,simprocAttr,Tryz.f75]
 rw [lk _ _ ?_]
 ·split
  ·rename_i h0
   rw [h0]
   simp -implicitDefEqProofs only [go_sem,simprocAttr,hu]
  ·rfl
 ·rfl
theorem ix_neg (b:UInt8):∀ o:List UInt8,decide (Lib.indexByte o b < 0)=!o.contains b
 | []=>rfl
 | c::o=>by
  have ih:=ix_neg b o
  have hge:=Lib.indexByte_ge o b
  unfold Lib.indexByte
  rw [List.contains_cons]
  by_cases h:c=b
  ·subst h;simp
  ·have h1:(c==b)=false:=by simpa using h
   have h2:(b==c)=false:=by simpa using fun e:b=c=>h e.symm
   rw [h1,h2]
   simp only [Bool.false_eq_true,if_false,Bool.false_or]
   rw [←ih]
   by_cases h3:Lib.indexByte o b=-1
   ·simp [h3]
   ·have h4:(Lib.indexByte o b==-1)=false:=by simpa using h3
    rw [h4]
    simp only [Bool.false_eq_true,if_false]
    congr 1
    simp only [eq_iff_iff]
    omega
theorem byte_back (b:UInt8):((b.toNat:Int).toNat.toUInt8)=b:=by simp
theorem p_IndexByte (o:List UInt8) (b:UInt8):R K (.call 263 [.str o,.int .u8 (b.toNat:Int)] [])=some (I (Lib.indexByte o b),[]):=R_prim (by
 show some (AV.int .i64 (Lib.indexByte o ((b.toNat:Int).toNat.toUInt8)))=_
 rw [byte_back])
theorem chB_eq (o:List UInt8) (c:UInt8):chB o c=!((decide ((c.toNat:Int) < 97)||decide ((c.toNat:Int) > 122))&&(decide ((c.toNat:Int) < 48)||decide ((c.toNat:Int) > 57))&&decide (Lib.indexByte o c < 0)):=by
 rw [ix_neg]
 unfold chB
 rw [Bool.eq_iff_iff]
 cases o.contains c<;>simp<;>omega
theorem l_consists (s o:List UInt8) (hs:s.length≤100000000) (ks:List It):∀ (q j:Nat) (i:Int) (Bo:Code),Loop Tryz.f212 0 Bo→i=(j:Int)→s.length=j+q →
  RL K (.run 212 0 (.code Bo::.lp Bo (some ([0,1,8,9],[])) 0::.blk 0 0::ks) [(0,.str s),(1,.str o),(8,I (s.length:Int)),(9,I i)] []) =
  if (s.drop j).all (chB o)=true then R K (.run 212 0 ks [(0,.str s)] []) else some (.bool false,[])
 | 0,j,i,Bo,hB,hi,hq=>by
  subst hi
  have d:¬(j:Int) < (s.length:Int):=by omega
  rw [List.drop_of_length_le (by omega),List.all_nil,if_pos rfl]
  unfold Loop at hB
  simp -implicitDefEqProofs only [go_sem,simprocAttr,Tryz.f212,loopOf] at hB
  subst hB
  rw [RL_eq]
  simp -implicitDefEqProofs only [go_sem,simprocAttr,d]
 | q+1,j,i,Bo,hB,hi,hq=>by
  subst hi
  have hB':=hB
  have d:(j:Int) < (s.length:Int):=by omega
  have h7:wrapI .i64 ((j:Int)+1)=((j+1:Nat):Int):=by rw [wrap_id (by omega) (by omega)];omega
  obtain ⟨b,hb⟩:∃ b,s[j]? = some b:=⟨s[j]'(by omega),List.getElem?_eq_getElem _⟩
  have hg:=byte_get hb
  have ih:=l_consists s o hs ks q (j+1) _ Bo hB' rfl (by omega)
  rw [drop_get hb,List.all_cons]
  have hx:=p_IndexByte o b
  rw [chB_eq]
  unfold Loop at hB
  simp -implicitDefEqProofs only [go_sem,simprocAttr,Tryz.f212,loopOf] at hB
  subst hB
  rw [RL_eq]
  simp -implicitDefEqProofs only [go_sem,simprocAttr,d,h7,hg,hx]
  repeat' ((first | apply split_cond | apply split_yes | apply split_no)<;>intro hc<;>simp -implicitDefEqProofs only [hc,go_sem,simprocAttr,d,h7,hg,hx])
  all_goals (try rw [ih])
  all_goals simp_all
theorem c_consists (s o:List UInt8) (hs:s.length≤100000000):R K (.call 212 [.str s,.str o] [])=some (.bool (s.all (chB o)&&!(s==[])),[]):=by
 have lk:=fun ks B hB=>l_consists s o hs ks s.length 0 0 B hB rfl (by omega)
 simp only [List.drop_zero] at lk
 rw [call_212]
 simp -implicitDefEqProofs only [go_sem,simprocAttr,Tryz.f212]
 rw [lk _ _ ?_]
 ·split
  ·rename_i h0
   rw [h0]
   simp -implicitDefEqProofs only [go_sem,simprocAttr,bne]
  ·rename_i h0
   rw [Bool.not_eq_true] at h0
   rw [h0];rfl
 ·rfl
def smallB (c:UInt8):Bool:=decide (97≤c.toNat)&&decide (c.toNat≤122)
theorem c_small (c:UInt8):R K (.call 255 [.int .u8 (c.toNat:Int)] [])=some (.bool (smallB c),[]):=by
 have h1:decide ((97:Int)≤(c.toNat:Int))=decide (97≤c.toNat):=by congr 1;simp only [eq_iff_iff];omega
 have h2:decide ((c.toNat:Int)≤122)=decide (c.toNat≤122):=by congr 1;simp only [eq_iff_iff];omega
 rw [call_255]
 simp -implicitDefEqProofs only [go_sem,simprocAttr,Tryz.f255]
 repeat' ((first | apply split_cond | apply split_yes | apply split_no)<;>intro hc<;>simp -implicitDefEqProofs only [hc,go_sem,simprocAttr])
 all_goals (unfold smallB;simp_all<;>omega)
theorem c_isTall (s:List UInt8) (hs:s.length≤100000000):R K (.call 199 [.str s] [])=some (.bool (tallB s),[]):=by
 have hc:=c_consists s [95] hs
 cases s with
 | nil =>
  have h0:(([]:List UInt8).all (chB [95])&&!(([]:List UInt8)==[]))=false:=rfl
  rw [h0] at hc
  rw [call_199]
  simp -implicitDefEqProofs only [go_sem,simprocAttr,Tryz.f199,hc]
  rfl
 | cons c r =>
  have h0:((c::r:List UInt8)==[])=false:=rfl
  rw [h0] at hc
  simp only [Bool.not_false,Bool.and_true] at hc
  have hg:at? (c::r) (0:Int)=some c:=rfl
  have hx:=c_small c
  have h2:decide (((c::r).length:Int)≤40)=decide ((c::r).length≤40):=by congr 1;simp only [eq_iff_iff];omega
  have e:tallB (c::r)=((c::r).all (chB [95])&&decide ((c::r).length≤40)&&smallB c):=rfl
  rw [e]
  generalize (c::r).all (chB [95])=x at hc ⊢
  rw [call_199]
  simp -implicitDefEqProofs only [go_sem,simprocAttr,Tryz.f199,hc,hg,hx]
  repeat' ((first | apply split_cond | apply split_yes | apply split_no)<;>intro hc<;>simp -implicitDefEqProofs only [hc,go_sem,simprocAttr,hc,hg,hx])
  all_goals (simp only [decide_eq_true_eq,decide_eq_false_iff_not] at hc)
  ·have h9:r.length≤39:=by omega
   simp [h9]
  ·have h9:¬r.length≤39:=by omega
   simp [h9]
theorem dropW_nil {p:UInt8→Bool}:∀ {l:List UInt8},l.dropWhile p=[]↔l.all p=true
 | []=>by simp
 | b::l=>by
  rw [List.dropWhile_cons,List.all_cons]
  cases p b with
  | true=>simp only [if_true,Bool.true_and];exact dropW_nil
  | false=>simp
theorem dropW_head {p:UInt8→Bool}:∀ {l:List UInt8} {c:UInt8} {r:List UInt8},l.dropWhile p=c::r→p c=false
 | [],_,_,h=>by simp at h
 | b::l,c,r,h=>by
  rw [List.dropWhile_cons] at h
  cases hb:p b with
  | true=>rw [hb,if_pos rfl] at h;exact dropW_head h
  | false =>
   rw [hb,if_neg (by simp)] at h
   rw [(List.cons.inj h).1] at hb;exact hb
theorem trim_nil (s cs:List UInt8):Lib.trimS s cs=[]↔s.all (cs.contains ·)=true:=by
 unfold Lib.trimS Lib.trimLeftS Lib.trimRightS
 rw [dropW_nil]
 cases hd:s.reverse.dropWhile (cs.contains ·) with
 | nil =>
  have:=dropW_nil.1 hd
  rw [List.all_reverse] at this
  simp only [List.reverse_nil,List.all_nil,true_iff]
  exact this
 | cons c r =>
  have hc:=dropW_head hd
  have hm:c∈s:=by
   have:c∈s.reverse.dropWhile (cs.contains ·):=by rw [hd];simp
   exact List.mem_reverse.1 ((List.dropWhile_sublist _).mem this)
  constructor
  ·intro h
   rw [List.all_reverse] at h
   have:=List.all_eq_true.1 h c (by simp)
   rw [hc] at this;simp at this
  ·intro h
   have:=List.all_eq_true.1 h c hm
   rw [hc] at this;simp at this
def lettB:List UInt8:=[97,98,99,100,101,102,103,104,105,106,107,108,109,110,111,112,113,114,115,116,117,118,119,120,121,122,48,49,50,51,52,53,54,55,56,57,95]
theorem lettB_in (c:UInt8):lettB.contains c=chB [95] c:=by
 have h:∀ n:Fin 256,lettB.contains (UInt8.ofNat n.val)=chB [95] (UInt8.ofNat n.val):=by decide +kernel
 have:=h ⟨c.toNat,c.toNat_lt⟩
 simpa using this
def within (n a b:Int):Bool:=decide (a≤n)&&decide (n≤b)
theorem r_within (n a b:Int):R K (.call 187 [.int .i64 n,.int .i64 a,.int .i64 b] [])=some (.bool (within n a b),[]):=by
 rw [call_187]
 simp -implicitDefEqProofs only [go_sem,simprocAttr,Tryz.f187]
 repeat' ((first | apply split_cond | apply split_yes | apply split_no)<;>intro hc<;>simp -implicitDefEqProofs only [hc,go_sem,simprocAttr])
 all_goals simp [within, *]
theorem r_named (s:List UInt8) (hs:s.length≤100000000):R K (.call 110 [.str s,.bool true] [])=some (.bool (tallB s),[]):=by
 have hp:R K (.call 188 [.str s,.str lettB] [])=some (.str (Lib.trimS s lettB),[]):=R_prim (by
  show pTrim [.str s,.str lettB]=_
  simp only [pTrim]
  have h1:decide (s.length≤9223372036854775807)=true:=decide_eq_true (by omega)
  have h2:(decide (lettB.length < 4294967281)&&ascii lettB)=true:=by decide
  rw [if_pos (by rw [h1,h2];rfl)])
 have he:(Lib.trimS s lettB==[])=s.all (chB [95]):=by
  have h:=trim_nil s lettB
  have e:(fun c=>lettB.contains c)=chB [95]:=funext lettB_in
  rw [e] at h
  rw [Bool.eq_iff_iff,beq_iff_eq];exact h
 unfold lettB at hp he
 cases s with
 | nil =>
  rw [call_110]
  simp -implicitDefEqProofs only [go_sem,simprocAttr,Tryz.f110,bne,beq_self_eq_true]
  rfl
 | cons c r =>
  have hg:at? (c::r) (0:Int)=some c:=rfl
  have h0:((c::r:List UInt8)==[])=false:=rfl
  have e:tallB (c::r)=((c::r).all (chB [95])&&decide ((c::r).length≤40)&&(decide (97≤c.toNat)&&decide (c.toNat≤122))):=rfl
  have hw:wrapI .i64 ((c.toNat:Int))=(c.toNat:Int):=wrap_id (by omega) (by have:=c.toNat_lt;omega)
  have hx:=r_within (c.toNat:Int) 97 122
  have hx2:within (c.toNat:Int) 97 122=(decide (97≤c.toNat)&&decide (c.toNat≤122)):=by
   unfold within
   rw [Bool.eq_iff_iff];simp;omega
  rw [hx2] at hx
  rw [e]
  generalize (c::r).all (chB [95])=x at he ⊢
  have hm:(37≤strMax)=True:=eq_true (by decide)
  rw [call_110]
  simp -implicitDefEqProofs only [go_sem,simprocAttr,Tryz.f110,hp,he,hg,hx,hw,h0,bne,hm]
  repeat' ((first | apply split_cond | apply split_yes | apply split_no)<;>intro hc<;>simp -implicitDefEqProofs only [hc,go_sem,simprocAttr,hp,he,hg,hx,hw,h0,bne,hm])
  ·rename_i hl
   simp only [decide_eq_true_eq] at hl
   have h9:r.length≤39:=by omega
   simp [h9]
  ·simp only [decide_eq_false_iff_not] at hc
   have h9:¬r.length≤39:=by omega
   simp [h9]
theorem leq_bytes (s b:List UInt8):(Op.bytesLess s b||s==b)=decide (Op.bytesLess s b=true∨s=b):=by
 rw [Bool.eq_iff_iff];simp
theorem r_ordered (s b:List UInt8) (first:Bool) (hs:s.length≤100000000):R K (.call 59 [.str s,.str b,.bool first] [])=some (I (ordE s b first),[]):=by
 have hn:=r_named s hs
 unfold ordE
 generalize tallB s=x at hn ⊢
 have hl:=leq_bytes s b
 rw [call_59]
 simp -implicitDefEqProofs only [go_sem,simprocAttr,Tryz.f59,hn,hl]
 repeat' ((first | apply split_cond | apply split_yes | apply split_no)<;>intro hc<;>simp -implicitDefEqProofs only [hc,go_sem,simprocAttr,hn,hl])
 all_goals simp_all
theorem c_tallOrder (s b:List UInt8) (i:Nat) (f:AV) (h:Heap) (hs:s.length≤100000000) (hu:under h.length (locsH h)=true) (hc:0 < i→callV nlA (R K) h [] f=some (.str b,h)):R K (.call 125 [.str s,I (i:Int),f] h)=some (I (ordE s b (i==0)),h):=by
 have hn:=c_isTall s hs
 unfold ordE
 generalize tallB s=x at hn ⊢
 have hl:=leq_bytes s b
 cases i with
 | zero =>
  have d:((0:Nat):Int)=0:=rfl
  rw [call_125]
  simp -implicitDefEqProofs only [go_sem,simprocAttr,Tryz.f125,hn,hu,d]
  repeat' ((first | apply split_cond | apply split_yes | apply split_no)<;>intro hc<;>simp -implicitDefEqProofs only [hc,go_sem,simprocAttr,hn,hu,d])
  all_goals simp_all
 | succ i =>
  have hb:=hc (by omega)
  have d:(0:Int) < ((i+1:Nat):Int):=by omega
  have d2:(((i+1:Nat):Int) > 0)=True:=eq_true d
  rw [call_125]
  simp -implicitDefEqProofs only [go_sem,simprocAttr,Tryz.f125,hn,hu,hb,hl,d,d2]
  repeat' ((first | apply split_cond | apply split_yes | apply split_no)<;>intro hc<;>simp -implicitDefEqProofs only [hc,go_sem,simprocAttr,hn,hu,hb,hl,d,d2])
  all_goals simp_all
abbrev colA (c:Col):AV:=.agg (colC c)
abbrev tblA (t:Tbl):AV:=.agg (tblC t)
theorem col_get {l:List Col} {j:Nat} {c:Col} (h:l[j]? = some c):at? (l.map colC) (j:Int)=some (colC c):=at_get (by simp [h])
theorem tbl_get {l:List Tbl} {j:Nat} {c:Tbl} (h:l[j]? = some c):at? (l.map tblC) (j:Int)=some (tblC c):=at_get (by simp [h])
theorem l_ixCol (f:AV) (h:Heap) (n:List UInt8) (hu:under h.length (locsH h)=true) (cols:List Col) (hl:cols.length≤1000000) (hc:∀ c:Col,callV nlA (R K) h [colA c] f=some (.bool (c.nm==n),h)) (ks:List It) :
  ∀ (q j:Nat) (i:Int) (Bo:Code),Loop Tryz.f14 0 Bo→i=(j:Int)→cols.length=j+q →
  RL K (.run 14 h.length (.code Bo::.lp Bo (some ([0,1,7,8],[])) h.length::.blk 0 h.length::ks) [(0,.rows (cols.map colC)),(1,f),(7,I (cols.length:Int)),(8,I i)] h) =
  if ixN n ((cols.drop j).map (·.nm)) j=-1 then R K (.run 14 h.length ks [] h) else some (I (ixN n ((cols.drop j).map (·.nm)) j),h)
 | 0,j,i,Bo,hB,hi,hq=>by
  subst hi
  have d:¬(j:Int) < (cols.length:Int):=by omega
  rw [List.drop_of_length_le (by omega),List.map_nil,show ixN n [] j=-1 from rfl,if_pos rfl]
  unfold Loop at hB
  simp -implicitDefEqProofs only [go_sem,simprocAttr,Tryz.f14,loopOf] at hB
  subst hB
  rw [RL_eq]
  simp -implicitDefEqProofs only [go_sem,simprocAttr,d]
 | q+1,j,i,Bo,hB,hi,hq=>by
  subst hi
  have hB':=hB
  have d:(j:Int) < (cols.length:Int):=by omega
  have h7:wrapI .i64 ((j:Int)+1)=((j+1:Nat):Int):=by rw [wrap_id (by omega) (by omega)];omega
  obtain ⟨c,hcj⟩:∃ c,cols[j]? = some c:=⟨cols[j]'(by omega),List.getElem?_eq_getElem _⟩
  have hg:=col_get hcj
  have hx:=hc c
  have ih:=l_ixCol f h n hu cols hl hc ks q (j+1) _ Bo hB' rfl (by omega)
  rw [drop_get hcj,List.map_cons]
  simp only [colA,colC] at hg hx
  by_cases hk:c.nm=n
  ·have e1:ixN n (c.nm::(cols.drop (j+1)).map (·.nm)) j=(j:Int):=by simp only [ixN];rw [if_pos hk]
   have dk:(c.nm==n)=true:=by simpa using hk
   rw [dk] at hx
   rw [e1,if_neg (by omega)]
   unfold Loop at hB
   simp -implicitDefEqProofs only [go_sem,simprocAttr,Tryz.f14,loopOf] at hB
   subst hB
   rw [RL_eq]
   simp -implicitDefEqProofs only [go_sem,simprocAttr,d,h7,hg,hx,hu]
  ·have e1:ixN n (c.nm::(cols.drop (j+1)).map (·.nm)) j=ixN n ((cols.drop (j+1)).map (·.nm)) (j+1):=by conv=>lhs;simp only [ixN];rw [if_neg hk]
   have dk:(c.nm==n)=false:=by simpa using hk
   rw [dk] at hx
   rw [e1]
   unfold Loop at hB
   simp -implicitDefEqProofs only [go_sem,simprocAttr,Tryz.f14,loopOf] at hB
   subst hB
   rw [RL_eq]
   simp -implicitDefEqProofs only [go_sem,simprocAttr,d,h7,hg,hx,hu]
   rw [ih]
theorem c_ixCol (f:AV) (h:Heap) (n:List UInt8) (hu:under h.length (locsH h)=true) (cols:List Col) (hl:cols.length≤1000000) (hc:∀ c:Col,callV nlA (R K) h [colA c] f=some (.bool (c.nm==n),h)) :
  R K (.call 14 [.rows (cols.map colC),f] h)=some (I (ixN n (cols.map (·.nm)) 0),h):=by
 have lk:=fun ks B hB=>l_ixCol f h n hu cols hl hc ks cols.length 0 0 B hB rfl (by omega)
 simp only [List.drop_zero] at lk
 rw [call_14]
 simp -implicitDefEqProofs only [go_sem,simprocAttr,Tryz.f14,List.length_map]
 rw [lk _ _ ?_]
 ·split
  ·rename_i h0
   rw [h0]
   simp -implicitDefEqProofs only [go_sem,simprocAttr,hu]
  ·rfl
 ·rfl
theorem l_ixTbl (f:AV) (h:Heap) (n:List UInt8) (hu:under h.length (locsH h)=true) (cols:List Tbl) (hl:cols.length≤1000000) (hc:∀ c:Tbl,callV nlA (R K) h [tblA c] f=some (.bool (c.nm==n),h)) (ks:List It) :
  ∀ (q j:Nat) (i:Int) (Bo:Code),Loop Tryz.f57 0 Bo→i=(j:Int)→cols.length=j+q →
  RL K (.run 57 h.length (.code Bo::.lp Bo (some ([0,1,7,8],[])) h.length::.blk 0 h.length::ks) [(0,.rows (cols.map tblC)),(1,f),(7,I (cols.length:Int)),(8,I i)] h) =
  if ixN n ((cols.drop j).map (·.nm)) j=-1 then R K (.run 57 h.length ks [] h) else some (I (ixN n ((cols.drop j).map (·.nm)) j),h)
 | 0,j,i,Bo,hB,hi,hq=>by
  subst hi
  have d:¬(j:Int) < (cols.length:Int):=by omega
  rw [List.drop_of_length_le (by omega),List.map_nil,show ixN n [] j=-1 from rfl,if_pos rfl]
  unfold Loop at hB
  simp -implicitDefEqProofs only [go_sem,simprocAttr,Tryz.f57,loopOf] at hB
  subst hB
  rw [RL_eq]
  simp -implicitDefEqProofs only [go_sem,simprocAttr,d]
 | q+1,j,i,Bo,hB,hi,hq=>by
  subst hi
  have hB':=hB
  have d:(j:Int) < (cols.length:Int):=by omega
  have h7:wrapI .i64 ((j:Int)+1)=((j+1:Nat):Int):=by rw [wrap_id (by omega) (by omega)];omega
  obtain ⟨c,hcj⟩:∃ c,cols[j]? = some c:=⟨cols[j]'(by omega),List.getElem?_eq_getElem _⟩
  have hg:=tbl_get hcj
  have hx:=hc c
  have ih:=l_ixTbl f h n hu cols hl hc ks q (j+1) _ Bo hB' rfl (by omega)
  rw [drop_get hcj,List.map_cons]
  simp only [tblA,tblC] at hg hx
  by_cases hk:c.nm=n
  ·have e1:ixN n (c.nm::(cols.drop (j+1)).map (·.nm)) j=(j:Int):=by simp only [ixN];rw [if_pos hk]
   have dk:(c.nm==n)=true:=by simpa using hk
   rw [dk] at hx
   rw [e1,if_neg (by omega)]
   unfold Loop at hB
   simp -implicitDefEqProofs only [go_sem,simprocAttr,Tryz.f57,loopOf] at hB
   subst hB
   rw [RL_eq]
   simp -implicitDefEqProofs only [go_sem,simprocAttr,d,h7,hg,hx,hu]
  ·have e1:ixN n (c.nm::(cols.drop (j+1)).map (·.nm)) j=ixN n ((cols.drop (j+1)).map (·.nm)) (j+1):=by conv=>lhs;simp only [ixN];rw [if_neg hk]
   have dk:(c.nm==n)=false:=by simpa using hk
   rw [dk] at hx
   rw [e1]
   unfold Loop at hB
   simp -implicitDefEqProofs only [go_sem,simprocAttr,Tryz.f57,loopOf] at hB
   subst hB
   rw [RL_eq]
   simp -implicitDefEqProofs only [go_sem,simprocAttr,d,h7,hg,hx,hu]
   rw [ih]
theorem c_ixTbl (f:AV) (h:Heap) (n:List UInt8) (hu:under h.length (locsH h)=true) (cols:List Tbl) (hl:cols.length≤1000000) (hc:∀ c:Tbl,callV nlA (R K) h [tblA c] f=some (.bool (c.nm==n),h)) :
  R K (.call 57 [.rows (cols.map tblC),f] h)=some (I (ixN n (cols.map (·.nm)) 0),h):=by
 have lk:=fun ks B hB=>l_ixTbl f h n hu cols hl hc ks cols.length 0 0 B hB rfl (by omega)
 simp only [List.drop_zero] at lk
 rw [call_57]
 simp -implicitDefEqProofs only [go_sem,simprocAttr,Tryz.f57,List.length_map]
 rw [lk _ _ ?_]
 ·split
  ·rename_i h0
   rw [h0]
   simp -implicitDefEqProofs only [go_sem,simprocAttr,hu]
  ·rfl
 ·rfl
abbrev nmH (n:List UInt8):Heap:=[.cells [.str n]]
theorem k_column (n:List UInt8) (c:Col):R K (.call 204 [colA c,.ptr 0 0] (nmH n))=some (.bool (c.nm==n),nmH n):=by
 rw [call_204]
 simp -implicitDefEqProofs only [go_sem,simprocAttr,Tryz.f204,colC]
theorem k_columnR (n:List UInt8) (c:Col):R K (.call 113 [colA c,.ptr 0 0] (nmH n))=some (.bool (c.nm==n),nmH n):=by
 rw [call_113]
 simp -implicitDefEqProofs only [go_sem,simprocAttr,Tryz.f113,colC]
theorem k_table (n:List UInt8) (t:Tbl):R K (.call 203 [tblA t,.ptr 0 0] (nmH n))=some (.bool (t.nm==n),nmH n):=by
 rw [call_203]
 simp -implicitDefEqProofs only [go_sem,simprocAttr,Tryz.f203,tblC]
theorem v_column (n:List UInt8) (c:Col):callV nlA (R K) (nmH n) [colA c] (.fn 204 [.ptr 0 0])=some (.bool (c.nm==n),nmH n):=by
 have hk:=k_column n c
 simp only [colA,colC] at hk ⊢
 simp -implicitDefEqProofs only [go_sem,simprocAttr,hk]
theorem v_columnR (n:List UInt8) (c:Col):callV nlA (R K) (nmH n) [colA c] (.fn 113 [.ptr 0 0])=some (.bool (c.nm==n),nmH n):=by
 have hk:=k_columnR n c
 simp only [colA,colC] at hk ⊢
 simp -implicitDefEqProofs only [go_sem,simprocAttr,hk]
theorem k_tableR (n:List UInt8) (t:Tbl):R K (.call 58 [tblA t,.ptr 0 0] (nmH n))=some (.bool (t.nm==n),nmH n):=by
 rw [call_58]
 simp -implicitDefEqProofs only [go_sem,simprocAttr,Tryz.f58,tblC]
theorem v_table (n:List UInt8) (t:Tbl):callV nlA (R K) (nmH n) [tblA t] (.fn 203 [.ptr 0 0])=some (.bool (t.nm==n),nmH n):=by
 have hk:=k_table n t
 simp only [tblA,tblC] at hk ⊢
 simp -implicitDefEqProofs only [go_sem,simprocAttr,hk]
theorem v_tableR (n:List UInt8) (t:Tbl):callV nlA (R K) (nmH n) [tblA t] (.fn 58 [.ptr 0 0])=some (.bool (t.nm==n),nmH n):=by
 have hk:=k_tableR n t
 simp only [tblA,tblC] at hk ⊢
 simp -implicitDefEqProofs only [go_sem,simprocAttr,hk]
theorem nmH_fits (n:List UInt8):under (nmH n).length (locsH (nmH n))=true:=rfl
theorem c_columnAt (t:Tbl) (n:List UInt8) (hl:t.cols.length≤1000000):R K (.call 141 [tblA t,.str n] [])=some (I (ixN n (t.cols.map (·.nm)) 0),[]):=by
 have hi:=c_ixCol (.fn 204 [.ptr 0 0]) (nmH n) n (nmH_fits n) t.cols hl (v_column n)
 rw [call_141]
 simp -implicitDefEqProofs only [go_sem,simprocAttr,Tryz.f141,tblC,hi]
theorem r_columnAt (t:Tbl) (n:List UInt8) (hl:t.cols.length≤1000000):R K (.call 61 [tblA t,.str n] [])=some (I (ixN n (t.cols.map (·.nm)) 0),[]):=by
 have hi:=c_ixCol (.fn 113 [.ptr 0 0]) (nmH n) n (nmH_fits n) t.cols hl (v_columnR n)
 rw [call_61]
 simp -implicitDefEqProofs only [go_sem,simprocAttr,Tryz.f61,tblC,hi]
theorem c_tableAt (x:List Tbl) (n:List UInt8) (hl:x.length≤1000000):R K (.call 139 [schC x,.str n] [])=some (I (ixN n (x.map (·.nm)) 0),[]):=by
 have hi:=c_ixTbl (.fn 203 [.ptr 0 0]) (nmH n) n (nmH_fits n) x hl (v_table n)
 rw [call_139]
 simp -implicitDefEqProofs only [go_sem,simprocAttr,Tryz.f139,hi]
theorem r_TableAt (x:List Tbl) (n:List UInt8) (hl:x.length≤1000000):R K (.call 19 [schC x,.str n] [])=some (I (ixN n (x.map (·.nm)) 0),[]):=by
 have hi:=c_ixTbl (.fn 58 [.ptr 0 0]) (nmH n) n (nmH_fits n) x hl (v_tableR n)
 rw [call_19]
 simp -implicitDefEqProofs only [go_sem,simprocAttr,Tryz.f19,hi]
abbrev V (k n:Int) (s:List UInt8):AV:=.agg [.int .i64 k,.int .i64 n,.str s]
theorem next_id {i n:Nat} (h:i < n) (hn:n≤9223372036854775807):wrapI .i64 ((i:Int)+1)=((i+1:Nat):Int):=by rw [wrap_id (by omega) (by omega)];rfl
theorem some_at {α:Type} {l:List α} {i:Nat} (h:i < l.length):∃ x,l[i]? = some x:=⟨l[i],List.getElem?_eq_getElem h⟩
theorem c_within (n a b:Int):R K (.call 142 [.int .i64 n,.int .i64 a,.int .i64 b] [])=some (.bool (within n a b),[]):=by
 rw [call_142]
 simp -implicitDefEqProofs only [go_sem,simprocAttr,Tryz.f142]
 repeat' ((first | apply split_cond | apply split_yes | apply split_no)<;>intro hc<;>simp -implicitDefEqProofs only [hc,go_sem,simprocAttr])
 all_goals simp [within, *]
theorem c_within2 (n a b:Int):R K (.call 201 [.int .i64 n,.int .i64 a,.int .i64 b] [])=some (.bool (within n a b),[]):=by
 rw [call_201]
 simp -implicitDefEqProofs only [go_sem,simprocAttr,Tryz.f201]
 repeat' ((first | apply split_cond | apply split_yes | apply split_no)<;>intro hc<;>simp -implicitDefEqProofs only [hc,go_sem,simprocAttr])
 all_goals simp [within, *]
def formS (v:Val):Bool:=if v.k=0 then v.n==0&&v.s==[] else if v.k=3 then v.n==0 else within v.k 1 4&&v.s==[]
theorem c_form (k n:Int) (s:List UInt8):R K (.call 143 [V k n s] [])=some (.bool (formS ⟨k,n,s⟩),[]):=by
 rw [call_143]
 simp -implicitDefEqProofs only [go_sem,simprocAttr,Tryz.f143,c_within]
 repeat' ((first | apply split_cond | apply split_yes | apply split_no)<;>intro hc<;>simp -implicitDefEqProofs only [hc,go_sem,simprocAttr,c_within])
 all_goals simp_all [formS]
def ok7 (s:List UInt8):Bool:=s.all fun c=>decide (32≤c.toNat)&&decide (c.toNat≤126)
theorem ok7_cons (b:UInt8) (s:List UInt8):ok7 (b::s)=(decide (32≤b.toNat)&&decide (b.toNat≤126)&&ok7 s):=by simp [ok7]
theorem l_range (k n:Int) (s:List UInt8) (hs:s.length≤100) (ks:List It):∀ (m i:Nat) (j:Int) (B:Code),Loop Tryz.f144 1 B→j=(i:Int)→s.length=i+m →
  RL K (.run 144 0 (.code B::.lp B (some ([1,23,24],[])) 1::.blk 1 1::ks) [(1,.ptr 0 0),(23,.int .i64 s.length),(24,.int .i64 j)] [.cells [.int .i64 k,.int .i64 n,.str s]]) =
  if ok7 (s.drop i)=true then R K (.run 144 0 ks [] [.cells [.int .i64 k,.int .i64 n,.str s]]) else some (.bool false,[])
 | 0,i,j,B,hB,hj,hm=>by
  subst hj
  have h1:¬((i:Int) < (s.length:Int)):=by omega
  unfold Loop at hB
  simp -implicitDefEqProofs only [go_sem,simprocAttr,Tryz.f144,loopOf] at hB
  subst hB
  rw [RL_eq]
  simp -implicitDefEqProofs only [go_sem,simprocAttr,h1]
  rw [List.drop_of_length_le (by omega)]
  rfl
 | m+1,i,j,B,hB,hj,hm=>by
  subst hj
  have h1:((i:Int) < (s.length:Int)):=by omega
  have hB':=hB
  obtain ⟨b,hb⟩:∃ b,s[i]? = some b:=⟨s[i]'(by omega),List.getElem?_eq_getElem _⟩
  have hg:=byte_get hb
  have hw:wrapI .i64 ((i:Int)+1)=((i+1:Nat):Int):=by rw [wrap_id (by omega) (by omega)];rfl
  unfold Loop at hB
  simp -implicitDefEqProofs only [go_sem,simprocAttr,Tryz.f144,loopOf] at hB
  subst hB
  rw [RL_eq]
  rw [drop_get hb]
  have ih:=l_range k n s hs ks m (i+1) _ _ hB' rfl (by omega)
  simp -implicitDefEqProofs only [go_sem,simprocAttr,h1,hg,hw]
  repeat' ((first | apply split_cond | apply split_yes | apply split_no)<;>intro hc<;>simp -implicitDefEqProofs only [hc,go_sem,simprocAttr,h1,hg,hw])
  all_goals simp only [decide_eq_true_eq,decide_eq_false_iff_not] at *
  ·have:ok7 (b::s.drop (i+1))=false:=by simp [ok7_cons];omega
   simp [this]
  ·have:ok7 (b::s.drop (i+1))=false:=by simp [ok7_cons];omega
   simp [this]
  ·have:ok7 (b::s.drop (i+1))=ok7 (s.drop (i+1)):=by
    have:32≤b.toNat∧b.toNat≤126:=by omega
    simp [ok7_cons,this]
   rw [this,ih]
def rangeS (v:Val):Bool:=if v.k=1 then within v.n 0 1 else if v.k=2 then within v.n (-999999999999999) 999999999999999 else if v.k=4 then within v.n 0 253402300799 else ok7 v.s
theorem c_range (k n:Int) (s:List UInt8) (hs:s.length≤100):R K (.call 144 [V k n s] [])=some (.bool (rangeS ⟨k,n,s⟩),[]):=by
 rw [call_144]
 simp -implicitDefEqProofs only [go_sem,simprocAttr,Tryz.f144,c_within]
 repeat' ((first | apply split_cond | apply split_yes | apply split_no)<;>intro hc<;>simp -implicitDefEqProofs only [hc,go_sem,simprocAttr,c_within])
 ·simp_all [rangeS]
 ·simp_all [rangeS]
 ·simp_all [rangeS]
 ·rw [l_range k n s hs _ s.length 0 0 _ ?_ rfl (by omega),List.drop_zero]
  ·split
   ·simp -implicitDefEqProofs only [go_sem,simprocAttr]
    simp_all [rangeS]
   ·simp_all [rangeS]
  ·rfl
theorem byteRows_row:∀ (s:List UInt8) (i:Nat) (b:UInt8),s[i]? = some b→(byteRows s)[i]? = some [.int .u8 (b.toNat:Int)]
 | [],i,b,h=>by simp at h
 | c::r,0,b,h=>by simp at h;subst h;rfl
 | c::r,i+1,b,h=>by simpa [byteRows] using byteRows_row r i b (by simpa using h)
theorem l_rplain (s:List UInt8) (hs:s.length≤100) (ks:List It):∀ (m i:Nat) (j:Int) (B:Code),Loop Tryz.f248 0 B→j=(i:Int)→s.length=i+m →
  RL K (.run 248 0 (.code B::.lp B (some ([6,7,8],[])) 0::.blk 0 0::ks) [(6,.rows (byteRows s)),(7,.int .i64 s.length),(8,.int .i64 j)] []) =
  if ok7 (s.drop i)=true then R K (.run 248 0 ks [] []) else some (.bool false,[])
 | 0,i,j,B,hB,hj,hm=>by
  subst hj
  have h1:¬((i:Int) < (s.length:Int)):=by omega
  unfold Loop at hB
  simp -implicitDefEqProofs only [go_sem,simprocAttr,Tryz.f248,loopOf] at hB
  subst hB
  rw [RL_eq]
  simp -implicitDefEqProofs only [go_sem,simprocAttr,h1]
  rw [List.drop_of_length_le (by omega)]
  rfl
 | m+1,i,j,B,hB,hj,hm=>by
  subst hj
  have h1:((i:Int) < (s.length:Int)):=by omega
  have hB':=hB
  obtain ⟨b,hb⟩:=some_at (l:=s) (i:=i) (by omega)
  have hg:=at_get (byteRows_row s i b hb)
  have hw:=next_id (i:=i) (n:=s.length) (by omega) (by omega)
  unfold Loop at hB
  simp -implicitDefEqProofs only [go_sem,simprocAttr,Tryz.f248,loopOf] at hB
  subst hB
  rw [RL_eq]
  rw [drop_get hb]
  have ih:=l_rplain s hs ks m (i+1) _ _ hB' rfl (by omega)
  simp -implicitDefEqProofs only [go_sem,simprocAttr,h1,hg,hw]
  repeat' ((first | apply split_cond | apply split_yes | apply split_no)<;>intro hc<;>simp -implicitDefEqProofs only [hc,go_sem,simprocAttr,h1,hg,hw])
  all_goals simp only [decide_eq_true_eq,decide_eq_false_iff_not] at *
  ·have:ok7 (b::s.drop (i+1))=false:=by simp [ok7_cons];omega
   simp [this]
  ·have:ok7 (b::s.drop (i+1))=false:=by simp [ok7_cons];omega
   simp [this]
  ·have:ok7 (b::s.drop (i+1))=ok7 (s.drop (i+1)):=by
    have:32≤b.toNat∧b.toNat≤126:=by omega
    simp [ok7_cons,this]
   rw [this,ih]
theorem r_plain (s:List UInt8) (hs:s.length≤100):R K (.call 248 [.str s] [])=some (.bool (ok7 s),[]):=by
 rw [call_248]
 simp -implicitDefEqProofs only [go_sem,simprocAttr,Tryz.f248,byteRows_len]
 rw [l_rplain s hs _ s.length 0 0 _ ?_ rfl (by omega),List.drop_zero]
 ·split
  ·simp -implicitDefEqProofs only [go_sem,simprocAttr]
   simp_all
  ·simp_all
 ·rfl
def chkS (kd:Int) (v:Val):Int :=
 if within kd 1 4=false then 4 else if formS v=false then 3 else if v.k≠0∧v.k≠kd then 8 else if 100 < v.s.length then 2 else if rangeS v=false then 1 else 0
theorem c_Check (kd k n:Int) (s:List UInt8):R K (.call 84 [I kd,V k n s] [])=some (I (chkS kd ⟨k,n,s⟩),[]):=by
 by_cases hs:s.length≤100
 ·have hs':¬(100 < (s.length:Int)):=by omega
  have hs2:¬(100 < s.length):=by omega
  rw [call_84]
  simp -implicitDefEqProofs only [go_sem,simprocAttr,Tryz.f84,c_within,c_form,c_range k n s hs,hs']
  repeat' ((first | apply split_cond | apply split_yes | apply split_no)<;>intro hc<;>simp -implicitDefEqProofs only [hc,go_sem,simprocAttr,c_within,c_form,c_range k n s hs,hs'])
  all_goals simp_all [chkS]
 ·have hs':(100 < (s.length:Int)):=by omega
  have hs2:(100 < s.length):=by omega
  rw [call_84]
  simp -implicitDefEqProofs only [go_sem,simprocAttr,Tryz.f84,c_within,c_form,hs']
  repeat' ((first | apply split_cond | apply split_yes | apply split_no)<;>intro hc<;>simp -implicitDefEqProofs only [hc,go_sem,simprocAttr,c_within,c_form,hs'])
  all_goals simp_all [chkS]
def faultK (kd:Int) (v:Val):Int :=
 if !(within v.k 0 4)||(v.k != 3&&v.s != [])||((v.k==3||v.k==0)&&v.n != 0) then 3
 else if kd≠0∧v.k≠0∧v.k≠kd then 8
 else if 100 < v.s.length then 2
 else if !(ok7 v.s)||(v.k==1&&!(within v.n 0 1))||(v.k==2&&!(within v.n (-999999999999999) 999999999999999))||(v.k==4&&!(within v.n 0 253402300799)) then 1
 else 0
set_option maxHeartbeats 4000000 in
theorem r_fault (kd k n:Int) (s:List UInt8):R K (.call 189 [I kd,V k n s] [])=some (I (faultK kd ⟨k,n,s⟩),[]):=by
 by_cases hs:s.length≤100
 ·have hs':¬(100 < (s.length:Int)):=by omega
  have hs2:¬(100 < s.length):=by omega
  rw [call_189]
  simp -implicitDefEqProofs only [go_sem,simprocAttr,Tryz.f189,r_within,r_plain s hs,hs']
  repeat' ((first | apply split_cond | apply split_yes | apply split_no)<;>intro hc<;>simp -implicitDefEqProofs only [hc,go_sem,simprocAttr,r_within,r_plain s hs,hs'])
  all_goals simp_all [faultK]
 ·have hs':(100 < (s.length:Int)):=by omega
  have hs2:(100 < s.length):=by omega
  rw [call_189]
  simp -implicitDefEqProofs only [go_sem,simprocAttr,Tryz.f189,r_within,hs']
  repeat' ((first | apply split_cond | apply split_yes | apply split_no)<;>intro hc<;>simp -implicitDefEqProofs only [hc,go_sem,simprocAttr,r_within,hs'])
  all_goals simp_all [faultK]
theorem fault_chk (kd:Int) (v:Val) (hk:within kd 1 4=true):faultK kd v=chkS kd v:=by
 obtain ⟨k,n,s⟩:=v
 by_cases hw:within k 0 4=true
 ·have h5:k=0∨k=1∨k=2∨k=3∨k=4:=by
   simp only [within,Bool.and_eq_true,decide_eq_true_eq] at hw
   omega
  rcases h5 with rfl | rfl | rfl | rfl | rfl<;>by_cases hs:s=[]<;>(try subst hs)<;>simp_all [faultK,chkS,formS,rangeS,within,ok7]
  all_goals (rcases (show kd=1∨kd=2∨kd=3∨kd=4 by omega) with rfl | rfl | rfl | rfl<;>simp)
  all_goals (split<;>split<;>first | rfl | omega)
 ·have h6:formS ⟨k,n,s⟩=false:=by
   simp only [within,Bool.and_eq_true,decide_eq_true_eq] at hw
   have h7:¬k=0:=by omega
   have h8:¬k=3:=by omega
   have h9:within k 1 4=false:=by
    rw [←Bool.not_eq_true];simp only [within,Bool.and_eq_true,decide_eq_true_eq];omega
   simp [formS,h7,h8,h9]
  rw [Bool.not_eq_true] at hw
  simp [faultK,chkS,hw,hk,h6]
theorem r_ValueFault (kd k n:Int) (s:List UInt8):R K (.call 111 [I kd,V k n s] [])=some (I (chkS kd ⟨k,n,s⟩),[]):=by
 cases hk:within kd 1 4 with
 | false =>
  rw [call_111]
  simp -implicitDefEqProofs only [go_sem,simprocAttr,Tryz.f111,r_within,hk]
  simp [chkS,hk]
 | true =>
  have h1:=r_fault kd k n s
  rw [fault_chk kd _ hk] at h1
  rw [call_111]
  simp -implicitDefEqProofs only [go_sem,simprocAttr,Tryz.f111,r_within,hk,h1]
structure FitT (t:Tbl):Prop where
 nm:t.nm.length≤100000000
 cols:t.cols.length≤1000000
 key:t.key.length≤1000000
 fgn:t.fgn.length≤1000000
 idx:t.idx.length≤1000000
 col:∀ c∈t.cols,c.nm.length≤100000000
 fg:∀ f∈t.fgn,f.nm.length≤100000000∧f.cols.length≤1000000
 ix:∀ x∈t.idx,x.nm.length≤100000000∧x.cols.length≤1000000
abbrev tbH (t:Tbl):Heap:=[.cells (tblC t)]
def colE (t:Tbl) (i:Nat):Int:=match t.cols[i]? with
 | some c=>if tallB c.nm=false then 5 else if ixN c.nm (t.cols.map (·.nm)) 0 < (i:Int) then 6 else chkS c.kd c.df
 | none=>0
theorem k_columns (t:Tbl) (ht:FitT t) (i:Nat) (hi:i < t.cols.length):R K (.call 200 [I (i:Int),.ptr 0 0] (tbH t))=some (I (colE t i),tbH t):=by
 obtain ⟨c,hc⟩:=some_at hi
 have hg:=col_get hc
 have hm:c∈t.cols:=List.mem_of_getElem? hc
 have h1:=c_isTall c.nm (ht.col c hm)
 have h2:=c_columnAt t c.nm ht.cols
 have h3:=c_within2 c.kd 1 4
 have h4:=c_Check c.kd c.df.k c.df.n c.df.s
 unfold colE
 rw [hc]
 simp only
 have h5:within c.kd 1 4=false→chkS c.kd c.df=4:=fun h=>by simp [chkS,h]
 simp only [tblA,tblC,colC] at h2 hg
 generalize chkS c.kd ⟨c.df.k,c.df.n,c.df.s⟩=y at *
 generalize tallB c.nm=x at *
 rw [call_200]
 simp -implicitDefEqProofs only [go_sem,simprocAttr,Tryz.f200,tblC,colC,hg,h1,h2,h3,h4]
 repeat' ((first | apply split_cond | apply split_yes | apply split_no)<;>intro hc<;>simp -implicitDefEqProofs only [hc,go_sem,simprocAttr,tblC,colC,hg,h1,h2,h3,h4])
 all_goals (simp_all [tblC]<;>(try (intro;omega)))
theorem v_columns (t:Tbl) (ht:FitT t):Tells (tbH t) (.fn 200 [.ptr 0 0]) (colE t) t.cols.length:=fun i hi=>by
 have hk:=k_columns t ht i hi
 simp only [tbH,tblC] at hk ⊢
 simp -implicitDefEqProofs only [go_sem,simprocAttr,hk]
theorem tbH_fits (t:Tbl):under (tbH t).length (locsH (tbH t))=true:=rfl
def columnsE (t:Tbl):Int:=evE (colE t) 0 t.cols.length
theorem c_columns (t:Tbl) (ht:FitT t):R K (.call 128 [tblA t] [])=some (I (columnsE t),[]):=by
 have hi:=c_every (.fn 200 [.ptr 0 0]) (tbH t) (colE t) t.cols.length ht.cols (tbH_fits t) (v_columns t ht)
 unfold columnsE
 simp only [tbH,tblC] at hi
 rw [call_128]
 simp -implicitDefEqProofs only [go_sem,simprocAttr,Tryz.f128,tblC,hi,List.length_map]
theorem str_get {l:List (List UInt8)} {j:Nat} {c:List UInt8} (h:l[j]? = some c):at? (SLs l) (j:Int)=some [.str c]:=at_get (by simp [h])
theorem l_ixS (n:List UInt8) (l:List (List UInt8)) (hl:l.length≤1000000) (ks:List It):∀ (q j:Nat) (i:Int) (Bo:Code),Loop Tryz.f56 0 Bo→i=(j:Int)→l.length=j+q →
  RL K (.run 56 0 (.code Bo::.lp Bo (some ([0,1,7,8],[])) 0::.blk 0 0::ks) [(0,.rows (SLs l)),(1,.str n),(7,I (l.length:Int)),(8,I i)] []) =
  if ixN n (l.drop j) j=-1 then R K (.run 56 0 ks [] []) else some (I (ixN n (l.drop j) j),[])
 | 0,j,i,Bo,hB,hi,hq=>by
  subst hi
  have d:¬(j:Int) < (l.length:Int):=by omega
  rw [List.drop_of_length_le (by omega),show ixN n [] j=-1 from rfl,if_pos rfl]
  unfold Loop at hB
  simp -implicitDefEqProofs only [go_sem,simprocAttr,Tryz.f56,loopOf] at hB
  subst hB
  rw [RL_eq]
  simp -implicitDefEqProofs only [go_sem,simprocAttr,d]
 | q+1,j,i,Bo,hB,hi,hq=>by
  subst hi
  have hB':=hB
  have d:(j:Int) < (l.length:Int):=by omega
  have h7:wrapI .i64 ((j:Int)+1)=((j+1:Nat):Int):=next_id (n:=l.length) (by omega) (by omega)
  obtain ⟨c,hcj⟩:=some_at (l:=l) (i:=j) (by omega)
  have hg:=str_get hcj
  have ih:=l_ixS n l hl ks q (j+1) _ Bo hB' rfl (by omega)
  rw [drop_get hcj]
  by_cases hk:c=n
  ·have e1:ixN n (c::l.drop (j+1)) j=(j:Int):=by simp only [ixN];rw [if_pos hk]
   have dk:(n==c)=true:=by simpa using hk.symm
   rw [e1,if_neg (by omega)]
   unfold Loop at hB
   simp -implicitDefEqProofs only [go_sem,simprocAttr,Tryz.f56,loopOf] at hB
   subst hB
   rw [RL_eq]
   simp -implicitDefEqProofs only [go_sem,simprocAttr,d,h7,hg,dk]
  ·have e1:ixN n (c::l.drop (j+1)) j=ixN n (l.drop (j+1)) (j+1):=by conv=>lhs;simp only [ixN];rw [if_neg hk]
   have dk:(n==c)=false:=by simpa using fun e:n=c=>hk e.symm
   rw [e1]
   unfold Loop at hB
   simp -implicitDefEqProofs only [go_sem,simprocAttr,Tryz.f56,loopOf] at hB
   subst hB
   rw [RL_eq]
   simp -implicitDefEqProofs only [go_sem,simprocAttr,d,h7,hg,dk]
   rw [ih]
theorem c_ixS (n:List UInt8) (l:List (List UInt8)) (hl:l.length≤1000000):R K (.call 56 [.rows (SLs l),.str n] [])=some (I (ixN n l 0),[]):=by
 have lk:=fun ks B hB=>l_ixS n l hl ks l.length 0 0 B hB rfl (by omega)
 simp only [List.drop_zero] at lk
 rw [call_56]
 simp -implicitDefEqProofs only [go_sem,simprocAttr,Tryz.f56,List.length_map]
 rw [lk _ _ ?_]
 ·split
  ·rename_i h0
   rw [h0]
   simp -implicitDefEqProofs only [go_sem,simprocAttr]
  ·rfl
 ·rfl
theorem c_contains (n:List UInt8) (l:List (List UInt8)) (hl:l.length≤1000000):R K (.call 16 [.rows (SLs l),.str n] [])=some (.bool (l.contains n),[]):=by
 have hi:=c_ixS n l hl
 have e:decide ((0:Int)≤ixN n l 0)=l.contains n:=by
  rw [Bool.eq_iff_iff,decide_eq_true_eq,List.contains_iff_mem]
  have h1:=ixN_mem n l 0
  rcases ixN_ge n l 0 with h2 | h2
  ·rw [h2];simp [h1.1 h2]
  ·constructor
   ·intro _
    refine Classical.byContradiction fun h3=>?_
    have:=h1.2 h3
    omega
   ·intro _;omega
 rw [call_16]
 simp -implicitDefEqProofs only [go_sem,simprocAttr,Tryz.f16,hi,e]
theorem ixN_col {t:Tbl} {n:List UInt8} (h:¬ixN n (t.cols.map (·.nm)) 0 < 0):∃ (a:Nat) (c:Col),ixN n (t.cols.map (·.nm)) 0=(a:Int)∧t.cols[a]? = some c:=by
 have h1:=ixN_lt n (t.cols.map (·.nm)) 0
 rw [List.length_map] at h1
 obtain ⟨a,ha⟩:=Int.eq_ofNat_of_zero_le (Int.not_lt.1 h)
 exact ⟨a,t.cols[a]'(by omega),ha,List.getElem?_eq_getElem _⟩
def namesE (t:Tbl) (l:List (List UInt8)) (m:Col→Int) (i:Nat):Int:=match l[i]? with
 | some n=>if ixN n (t.cols.map (·.nm)) 0 < 0 then 5 else if (l.take i).contains n=true then 6 else (match t.cols[(ixN n (t.cols.map (·.nm)) 0).toNat]? with
  | some c=>m c
  | none=>0)
 | none=>0
abbrev nsH (t:Tbl) (l:List (List UInt8)) (g:Nat):Heap:=[.cells (tblC t),.cells [.rows (SLs l)],.cells [.fn g []]]
theorem SLs_app (a:List (List UInt8)) (s:List UInt8):SLs a++[[AV.str s]]=SLs (a++[s]):=by simp [SLs]
theorem locsR_SLs:∀ l:List (List UInt8),locsR (SLs l)=[]
 | []=>rfl
 | s::l=>by simpa [SLs,locsR,locsL,locs] using locsR_SLs l
theorem SLs_len (a:List (List UInt8)):(SLs a).length=a.length:=by simp [SLs]
theorem take_SLs (l:List (List UInt8)) (i:Nat):List.take i (SLs l)=SLs (l.take i):=by simp [SLs,List.map_take]
theorem allLen_SLs:∀ l:List (List UInt8),allLen 1 (SLs l)=true
 | []=>rfl
 | s::l=>by simpa [allLen] using allLen_SLs l
theorem k_names (t:Tbl) (ht:FitT t) (l:List (List UInt8)) (hl:l.length≤1000000) (g:Nat) (hG:g=131∨g=135) (m:Col→Int) (hm:∀ c,R K (.call g [colA c] [])=some (I (m c),[])) (i:Nat) (hi:i < l.length) :
  R K (.call 202 [I (i:Int),.ptr 0 0,.ptr 1 0,.ptr 2 0] (nsH t l g))=some (I (namesE t l m i),nsH t l g):=by
 obtain ⟨n,hn⟩:=some_at hi
 have hg:=str_get hn
 have h2:=c_columnAt t n ht.cols
 have h3:=c_contains n (l.take i) (by simp;omega)
 have g1:((i:Int)≤(l.length:Int))=True:=eq_true (by omega)
 have g2:((0:Int)≤(i:Int))=True:=eq_true (by omega)
 unfold namesE
 rw [hn]
 simp only
 simp only [tblA,tblC] at h2
 by_cases h4:ixN n (t.cols.map (·.nm)) 0 < 0
 ·rw [call_202]
  simp -implicitDefEqProofs only [go_sem,simprocAttr,Tryz.f202,tblC,hg,h2,h4]
  rfl
 ·obtain ⟨a,c,h5,h6⟩:=ixN_col h4
  have h7:=col_get h6
  have h8:=hm c
  rw [if_neg h4,h5,Int.toNat_natCast,h6]
  rw [h5] at h2
  have h9:((a:Int) < 0)=False:=eq_false (by omega)
  simp only [colA,colC] at h7 h8 ⊢
  generalize (l.take i).contains n=x at *
  rcases hG with rfl | rfl
  ·rw [call_202]
   simp -implicitDefEqProofs only [go_sem,simprocAttr,Tryz.f202,tblC,hg,h2,h9,h3,take_SLs,allLen_SLs,g1,g2,Int.toNat_natCast,Nat.sub_zero,List.length_map,h7,h8]
   repeat' ((first | apply split_cond | apply split_yes | apply split_no)<;>intro hc<;>simp -implicitDefEqProofs only [hc,go_sem,simprocAttr,tblC,hg,h2,h9,h3,take_SLs,allLen_SLs,g1,g2,Int.toNat_natCast,Nat.sub_zero,List.length_map,h7,h8])
   all_goals simp_all [tblC]
  ·rw [call_202]
   simp -implicitDefEqProofs only [go_sem,simprocAttr,Tryz.f202,tblC,hg,h2,h9,h3,take_SLs,allLen_SLs,g1,g2,Int.toNat_natCast,Nat.sub_zero,List.length_map,h7,h8]
   repeat' ((first | apply split_cond | apply split_yes | apply split_no)<;>intro hc<;>simp -implicitDefEqProofs only [hc,go_sem,simprocAttr,tblC,hg,h2,h9,h3,take_SLs,allLen_SLs,g1,g2,Int.toNat_natCast,Nat.sub_zero,List.length_map,h7,h8])
   all_goals simp_all [tblC]
theorem v_names (t:Tbl) (ht:FitT t) (l:List (List UInt8)) (hl:l.length≤1000000) (g:Nat) (hG:g=131∨g=135) (m:Col→Int) (hm:∀ c,R K (.call g [colA c] [])=some (I (m c),[])) :
  Tells (nsH t l g) (.fn 202 [.ptr 0 0,.ptr 1 0,.ptr 2 0]) (namesE t l m) l.length:=fun i hi=>by
 have hk:=k_names t ht l hl g hG m hm i hi
 simp only [nsH,tblC] at hk ⊢
 simp -implicitDefEqProofs only [go_sem,simprocAttr,hk]
def listE (t:Tbl) (l:List (List UInt8)) (m:Col→Int):Int:=evE (namesE t l m) 0 l.length
theorem c_columnNames (t:Tbl) (ht:FitT t) (l:List (List UInt8)) (hl:l.length≤1000000) (g:Nat) (hG:g=131∨g=135) (m:Col→Int) (hm:∀ c,R K (.call g [colA c] [])=some (I (m c),[])) :
  R K (.call 130 [tblA t,.rows (SLs l),.fn g []] [])=some (I (listE t l m),[]):=by
 have hi:=c_every (.fn 202 [.ptr 0 0,.ptr 1 0,.ptr 2 0]) (nsH t l g) (namesE t l m) l.length hl rfl (v_names t ht l hl g hG m hm)
 unfold listE
 simp only [nsH,tblC] at hi
 rw [call_130]
 simp -implicitDefEqProofs only [go_sem,simprocAttr,Tryz.f130,tblC,hi,List.length_map]
def keyM (c:Col):Int:=if c.nl=true then 9 else 0
theorem c_keyM (c:Col):R K (.call 131 [colA c] [])=some (I (keyM c),[]):=by
 rw [call_131]
 simp -implicitDefEqProofs only [go_sem,simprocAttr,Tryz.f131,colC]
 repeat' ((first | apply split_cond | apply split_yes | apply split_no)<;>intro hc<;>simp -implicitDefEqProofs only [hc,go_sem,simprocAttr,colC])
 all_goals simp_all [keyM]
theorem c_fine (c:Col):R K (.call 135 [colA c] [])=some (I 0,[]):=by
 rw [call_135]
 simp -implicitDefEqProofs only [go_sem,simprocAttr,Tryz.f135,colC]
theorem fgn_get {l:List Fgn} {j:Nat} {c:Fgn} (h:l[j]? = some c):at? (l.map fgnC) (j:Int)=some (fgnC c):=at_get (by simp [h])
theorem idx_get {l:List Idx} {j:Nat} {c:Idx} (h:l[j]? = some c):at? (l.map idxC) (j:Int)=some (idxC c):=at_get (by simp [h])
abbrev tiH (t:Tbl) (i:Nat):Heap:=[.cells (tblC t),.cells [I (i:Int)]]
theorem pred_id {i:Nat} (h:i+1≤1000000):wrapI .i64 (((i+1:Nat):Int) - 1)=(i:Int):=by rw [wrap_id (by omega) (by omega)];omega
theorem k_before4 (t:Tbl) (i:Nat) (f:Fgn) (hi:i+1≤1000000) (hf:t.fgn[i]? = some f):R K (.call 134 [.ptr 0 0,.ptr 1 0] (tiH t (i+1)))=some (.str f.nm,tiH t (i+1)):=by
 have h1:=pred_id hi
 have hg:=fgn_get hf
 simp only [fgnC] at hg
 rw [call_134]
 simp -implicitDefEqProofs only [go_sem,simprocAttr,Tryz.f134,tblC,fgnC,h1,hg]
 rfl
theorem k_before5 (t:Tbl) (i:Nat) (f:Idx) (hi:i+1≤1000000) (hf:t.idx[i]? = some f):R K (.call 138 [.ptr 0 0,.ptr 1 0] (tiH t (i+1)))=some (.str f.nm,tiH t (i+1)):=by
 have h1:=pred_id hi
 have hg:=idx_get hf
 simp only [idxC] at hg
 rw [call_138]
 simp -implicitDefEqProofs only [go_sem,simprocAttr,Tryz.f138,tblC,idxC,h1,hg]
 rfl
theorem v_before4 (t:Tbl) (i:Nat) (f:Fgn) (hi:i+1≤1000000) (hf:t.fgn[i]? = some f):callV nlA (R K) (tiH t (i+1)) [] (.fn 134 [.ptr 0 0,.ptr 1 0])=some (.str f.nm,tiH t (i+1)):=by
 have hk:=k_before4 t i f hi hf
 simp only [tiH,tblC] at hk ⊢
 simp -implicitDefEqProofs only [go_sem,simprocAttr,hk]
theorem v_before5 (t:Tbl) (i:Nat) (f:Idx) (hi:i+1≤1000000) (hf:t.idx[i]? = some f):callV nlA (R K) (tiH t (i+1)) [] (.fn 138 [.ptr 0 0,.ptr 1 0])=some (.str f.nm,tiH t (i+1)):=by
 have hk:=k_before5 t i f hi hf
 simp only [tiH,tblC] at hk ⊢
 simp -implicitDefEqProofs only [go_sem,simprocAttr,hk]
def befN (l:List (List UInt8)) (i:Nat):List UInt8:=(l[i - 1]?).getD []
def fgnE (t:Tbl) (i:Nat):Int:=match t.fgn[i]? with
 | some f=>orE (ordE f.nm (befN (t.fgn.map (·.nm)) i) (i==0)) (listE t f.cols fun _=>0)
 | none=>0
theorem c_ord4 (t:Tbl) (ht:FitT t) (i:Nat) (f:Fgn) (hf:t.fgn[i]? = some f):R K (.call 125 [.str f.nm,I (i:Int),.fn 134 [.ptr 0 0,.ptr 1 0]] (tiH t i))=some (I (ordE f.nm (befN (t.fgn.map (·.nm)) i) (i==0)),tiH t i):=by
 have hlt:=(List.getElem?_eq_some_iff.1 hf).1
 refine c_tallOrder _ _ _ _ _ (ht.fg f (List.mem_of_getElem? hf)).1 rfl fun hi=>?_
 obtain ⟨j,rfl⟩:∃ j,i=j+1:=⟨i - 1,by omega⟩
 obtain ⟨g,hg⟩:=some_at (l:=t.fgn) (i:=j) (by omega)
 have:=ht.fgn
 have e:befN (t.fgn.map (·.nm)) (j+1)=g.nm:=by simp [befN,hg]
 rw [e]
 exact v_before4 t j g (by omega) hg
theorem k_fgn (t:Tbl) (ht:FitT t) (i:Nat) (hi:i < t.fgn.length):R K (.call 133 [I (i:Int),.ptr 0 0] (tbH t))=some (I (fgnE t i),tbH t):=by
 obtain ⟨f,hf⟩:=some_at hi
 have hg:=fgn_get hf
 have hm:=List.mem_of_getElem? hf
 have h1:=c_ord4 t ht i f hf
 have h2:=c_columnNames t ht f.cols (ht.fg f hm).2 135 (.inr rfl) (fun _=>0) c_fine
 unfold fgnE
 rw [hf]
 simp only
 generalize ordE f.nm (befN (t.fgn.map (·.nm)) i) (i==0)=x at *
 generalize listE t f.cols (fun _=>0)=y at *
 simp only [tblA,tblC,fgnC,tiH] at h1 h2 hg
 by_cases hx:x=0
 ·subst hx
  rw [call_133]
  simp -implicitDefEqProofs only [go_sem,simprocAttr,Tryz.f133,tblC,fgnC,hg,h1,h2,bne]
  rfl
 ·have dx:(x==0)=false:=by simpa using hx
  rw [call_133]
  simp -implicitDefEqProofs only [go_sem,simprocAttr,Tryz.f133,tblC,fgnC,hg,h1,h2,bne,dx]
  simp [orE,hx,tblC]
def idxE (t:Tbl) (i:Nat):Int:=match t.idx[i]? with
 | some f=>orE (ordE f.nm (befN (t.idx.map (·.nm)) i) (i==0)) (if f.cols.length=0 then 3 else if 8 < f.cols.length then 2 else listE t f.cols fun _=>0)
 | none=>0
theorem c_ord5 (t:Tbl) (ht:FitT t) (i:Nat) (f:Idx) (hf:t.idx[i]? = some f):R K (.call 125 [.str f.nm,I (i:Int),.fn 138 [.ptr 0 0,.ptr 1 0]] (tiH t i))=some (I (ordE f.nm (befN (t.idx.map (·.nm)) i) (i==0)),tiH t i):=by
 have hlt:=(List.getElem?_eq_some_iff.1 hf).1
 refine c_tallOrder _ _ _ _ _ (ht.ix f (List.mem_of_getElem? hf)).1 rfl fun hi=>?_
 obtain ⟨j,rfl⟩:∃ j,i=j+1:=⟨i - 1,by omega⟩
 obtain ⟨g,hg⟩:=some_at (l:=t.idx) (i:=j) (by omega)
 have:=ht.idx
 have e:befN (t.idx.map (·.nm)) (j+1)=g.nm:=by simp [befN,hg]
 rw [e]
 exact v_before5 t j g (by omega) hg
theorem k_idx (t:Tbl) (ht:FitT t) (i:Nat) (hi:i < t.idx.length):R K (.call 137 [I (i:Int),.ptr 0 0] (tbH t))=some (I (idxE t i),tbH t):=by
 obtain ⟨f,hf⟩:=some_at hi
 have hg:=idx_get hf
 have hm:=List.mem_of_getElem? hf
 have h1:=c_ord5 t ht i f hf
 have h2:=c_columnNames t ht f.cols (ht.ix f hm).2 135 (.inr rfl) (fun _=>0) c_fine
 unfold idxE
 rw [hf]
 simp only
 generalize ordE f.nm (befN (t.idx.map (·.nm)) i) (i==0)=x at *
 generalize listE t f.cols (fun _=>0)=y at *
 simp only [tblA,tblC,idxC,tiH] at h1 h2 hg
 by_cases hx:x=0
 ·subst hx
  by_cases a:f.cols.length=0
  ·have d0:((f.cols.length:Int)==0)=true:=by simp [a]
   rw [call_137]
   simp -implicitDefEqProofs only [go_sem,simprocAttr,Tryz.f137,tblC,idxC,hg,h1,h2,bne,List.length_map,d0]
   simp [orE,a,tblC]
  ·have d0:((f.cols.length:Int)==0)=false:=by rw [←Bool.not_eq_true,beq_iff_eq];omega
   by_cases b:8 < f.cols.length
   ·have d8:((8:Int) < (f.cols.length:Int))=True:=eq_true (by omega)
    rw [call_137]
    simp -implicitDefEqProofs only [go_sem,simprocAttr,Tryz.f137,tblC,idxC,hg,h1,h2,bne,List.length_map,d0,d8]
    simp [orE,a,b,tblC]
   ·have d8:((8:Int) < (f.cols.length:Int))=False:=eq_false (by omega)
    rw [call_137]
    simp -implicitDefEqProofs only [go_sem,simprocAttr,Tryz.f137,tblC,idxC,hg,h1,h2,bne,List.length_map,d0,d8]
    simp [orE,a,b,tblC]
 ·have dx:(x==0)=false:=by simpa using hx
  rw [call_137]
  simp -implicitDefEqProofs only [go_sem,simprocAttr,Tryz.f137,tblC,idxC,hg,h1,h2,bne,dx]
  simp [orE,hx,tblC]
theorem l_first (h:Heap) (l:Nat) (w:Bool) (fs:List AV) (e:Nat→Int) (hn:fs.length≤1000000) (hl:h[l]? = some (.rows 1 (fs.map fun f=>[f]) w)) (hu:under h.length (locsH h)=true) (hc:∀ j f,(∀ k,k < j→e k=0)→fs[j]? = some f→callV nlA (R K) h [] f=some (I (e j),h)) (ks:List It) :
  ∀ (q j:Nat) (i:Int) (Bo:Code),Loop Tryz.f73 0 Bo→i=(j:Int)→fs.length=j+q→(∀ k,k < j→e k=0) →
  RL K (.run 73 h.length (.code Bo::.lp Bo (some ([6,7,8],[])) h.length::.blk 0 h.length::ks) [(6,.own l fs.length),(7,I (fs.length:Int)),(8,I i)] h) =
  if evE e j q=0 then R K (.run 73 h.length ks [] h) else some (I (evE e j q),h)
 | 0,j,i,Bo,hB,hi,hq,_=>by
  subst hi
  have d:¬(j:Int) < (fs.length:Int):=by omega
  unfold Loop at hB
  simp -implicitDefEqProofs only [go_sem,simprocAttr,Tryz.f73,loopOf] at hB
  subst hB
  rw [RL_eq]
  simp -implicitDefEqProofs only [go_sem,simprocAttr,d,evE]
 | q+1,j,i,Bo,hB,hi,hq,hz=>by
  subst hi
  have hB':=hB
  have d:(j:Int) < (fs.length:Int):=by omega
  have d0:((0:Int)≤(j:Int))=True:=eq_true (by omega)
  have h7:wrapI .i64 ((j:Int)+1)=((j+1:Nat):Int):=next_id (n:=fs.length) (by omega) (by omega)
  obtain ⟨f,hf⟩:=some_at (l:=fs) (i:=j) (by omega)
  have hx:=hc j f hz hf
  have hj:(fs.map fun f=>[f])[j]? = some [f]:=by simp [hf]
  have hA:=at_get hj
  by_cases hk:e j=0
  ·have e1:evE e j (q+1)=evE e (j+1) q:=by simp only [evE];rw [if_pos hk]
   have ih:=l_first h l w fs e hn hl hu hc ks q (j+1) _ Bo hB' rfl (by omega) fun k hk'=>by
    by_cases hkj:k=j
    ·rw [hkj];exact hk
    ·exact hz k (by omega)
   rw [e1]
   rw [hk] at hx
   unfold Loop at hB
   simp -implicitDefEqProofs only [go_sem,simprocAttr,Tryz.f73,loopOf] at hB
   subst hB
   rw [RL_eq]
   simp -implicitDefEqProofs only [go_sem,simprocAttr,d,d0,h7,hl,hj,hA,hx,bne,Int.toNat_natCast,List.length_map]
   rw [ih]
  ·have e1:evE e j (q+1)=e j:=by simp only [evE];rw [if_neg hk]
   have dk:(e j==0)=false:=by simpa using hk
   rw [e1,if_neg hk]
   unfold Loop at hB
   simp -implicitDefEqProofs only [go_sem,simprocAttr,Tryz.f73,loopOf] at hB
   subst hB
   rw [RL_eq]
   simp -implicitDefEqProofs only [go_sem,simprocAttr,d,d0,h7,hl,hj,hA,hx,dk,bne,hu,Int.toNat_natCast,List.length_map]
theorem c_first (h:Heap) (l:Nat) (w:Bool) (fs:List AV) (n:Nat) (e:Nat→Int) (hn:fs.length=n) (hb:n≤1000000) (hl:h[l]? = some (.rows 1 (fs.map fun f=>[f]) w)) (hu:under h.length (locsH h)=true) (hc:∀ j f,(∀ k,k < j→e k=0)→fs[j]? = some f→callV nlA (R K) h [] f=some (I (e j),h)) :
  R K (.call 73 [.own l n] h)=some (I (evE e 0 n),h):=by
 subst hn
 have lk:=fun ks B hB=>l_first h l w fs e hb hl hu hc ks fs.length 0 0 B hB rfl (by omega) (fun k hk=>absurd hk (by omega))
 rw [call_73]
 simp -implicitDefEqProofs only [go_sem,simprocAttr,Tryz.f73]
 rw [lk _ _ ?_]
 ·split
  ·rename_i h0
   rw [h0]
   simp -implicitDefEqProofs only [go_sem,simprocAttr,hu]
  ·rfl
 ·rfl
theorem k_70 (t:Tbl) (ht:FitT t):R K (.call 127 [.ptr 0 0] (tbH t))=some (I (columnsE t),tbH t):=by
 have hi:=c_columns t ht
 simp only [tblA,tblC] at hi
 rw [call_127]
 simp -implicitDefEqProofs only [go_sem,simprocAttr,Tryz.f127,tblC,hi]
 rfl
def keyE (t:Tbl):Int:=if t.key.length=0 then 3 else listE t t.key keyM
theorem k_72 (t:Tbl) (ht:FitT t):R K (.call 129 [.ptr 0 0] (tbH t))=some (I (keyE t),tbH t):=by
 have hi:=c_columnNames t ht t.key ht.key 131 (.inl rfl) keyM c_keyM
 simp only [tblA,tblC] at hi
 unfold keyE
 by_cases a:t.key.length=0
 ·have d0:((t.key.length:Int)==0)=true:=by simp [a]
  rw [call_129]
  simp -implicitDefEqProofs only [go_sem,simprocAttr,Tryz.f129,tblC,hi,d0,List.length_map]
  simp [a,tblC]
 ·have d0:((t.key.length:Int)==0)=false:=by rw [←Bool.not_eq_true,beq_iff_eq];omega
  rw [call_129]
  simp -implicitDefEqProofs only [go_sem,simprocAttr,Tryz.f129,tblC,hi,d0,List.length_map]
  simp [a,tblC]
theorem v_fgn (t:Tbl) (ht:FitT t):Tells (tbH t) (.fn 133 [.ptr 0 0]) (fgnE t) t.fgn.length:=fun i hi=>by
 have hk:=k_fgn t ht i hi
 simp only [tbH,tblC] at hk ⊢
 simp -implicitDefEqProofs only [go_sem,simprocAttr,hk]
theorem v_idx (t:Tbl) (ht:FitT t):Tells (tbH t) (.fn 137 [.ptr 0 0]) (idxE t) t.idx.length:=fun i hi=>by
 have hk:=k_idx t ht i hi
 simp only [tbH,tblC] at hk ⊢
 simp -implicitDefEqProofs only [go_sem,simprocAttr,hk]
theorem k_75 (t:Tbl) (ht:FitT t):R K (.call 132 [.ptr 0 0] (tbH t))=some (I (evE (fgnE t) 0 t.fgn.length),tbH t):=by
 have hi:=c_every _ (tbH t) (fgnE t) t.fgn.length ht.fgn (tbH_fits t) (v_fgn t ht)
 simp only [tbH,tblC] at hi
 rw [call_132]
 simp -implicitDefEqProofs only [go_sem,simprocAttr,Tryz.f132,tblC,hi,List.length_map]
 rfl
theorem k_79 (t:Tbl) (ht:FitT t):R K (.call 136 [.ptr 0 0] (tbH t))=some (I (evE (idxE t) 0 t.idx.length),tbH t):=by
 have hi:=c_every _ (tbH t) (idxE t) t.idx.length ht.idx (tbH_fits t) (v_idx t ht)
 simp only [tbH,tblC] at hi
 rw [call_136]
 simp -implicitDefEqProofs only [go_sem,simprocAttr,Tryz.f136,tblC,hi,List.length_map]
 rfl
abbrev foH (t:Tbl) (w:Bool):Heap:=[.rows 1 [[.fn 127 [.ptr 1 0]],[.fn 129 [.ptr 1 0]],[.fn 132 [.ptr 1 0]],[.fn 136 [.ptr 1 0]]] w,.cells (tblC t)]
def partE (t:Tbl):Nat→Int
 | 0=>columnsE t
 | 1=>keyE t
 | 2=>evE (fgnE t) 0 t.fgn.length
 | 3=>evE (idxE t) 0 t.idx.length
 | _=>0
theorem c_parts (t:Tbl) (ht:FitT t) (w:Bool):R K (.call 73 [.own 0 4] (foH t w))=some (I (evE (partE t) 0 4),foH t w):=by
 refine c_first (foH t w) 0 w [.fn 127 [.ptr 1 0],.fn 129 [.ptr 1 0],.fn 132 [.ptr 1 0],.fn 136 [.ptr 1 0]] 4 (partE t) rfl (by omega) rfl rfl ?_
 intro j f _ hf
 have h0:=k_70 t ht
 have h1:=k_72 t ht
 have h2:=k_75 t ht
 have h3:=k_79 t ht
 simp only [tbH,tblC] at h0 h1 h2 h3
 match j,hf with
 | 0,hf =>
  simp only [List.getElem?_cons_zero,Option.some.injEq] at hf
  subst hf
  simp only [foH,tblC,partE]
  simp -implicitDefEqProofs only [go_sem,simprocAttr,h0]
 | 1,hf =>
  simp only [List.getElem?_cons_succ,List.getElem?_cons_zero,Option.some.injEq] at hf
  subst hf
  simp only [foH,tblC,partE]
  simp -implicitDefEqProofs only [go_sem,simprocAttr,h1]
 | 2,hf =>
  simp only [List.getElem?_cons_succ,List.getElem?_cons_zero,Option.some.injEq] at hf
  subst hf
  simp only [foH,tblC,partE]
  simp -implicitDefEqProofs only [go_sem,simprocAttr,h2]
 | 3,hf =>
  simp only [List.getElem?_cons_succ,List.getElem?_cons_zero,Option.some.injEq] at hf
  subst hf
  simp only [foH,tblC,partE]
  simp -implicitDefEqProofs only [go_sem,simprocAttr,h3]
 | j+4,hf=>simp at hf
abbrev siH (x:List Tbl) (i:Nat):Heap:=[.cells [.rows (x.map tblC)],.cells [I (i:Int)]]
theorem k_before1 (x:List Tbl) (i:Nat) (t:Tbl) (hi:i+1≤1000000) (hf:x[i]? = some t):R K (.call 126 [.ptr 0 0,.ptr 1 0] (siH x (i+1)))=some (.str t.nm,siH x (i+1)):=by
 have h1:=pred_id hi
 have hg:=tbl_get hf
 simp only [tblC] at hg
 rw [call_126]
 simp -implicitDefEqProofs only [go_sem,simprocAttr,Tryz.f126,h1,hg]
theorem v_before1 (x:List Tbl) (i:Nat) (t:Tbl) (hi:i+1≤1000000) (hf:x[i]? = some t):callV nlA (R K) (siH x (i+1)) [] (.fn 126 [.ptr 0 0,.ptr 1 0])=some (.str t.nm,siH x (i+1)):=by
 have hk:=k_before1 x i t hi hf
 simp only [siH] at hk ⊢
 simp -implicitDefEqProofs only [go_sem,simprocAttr,hk]
theorem c_ord1 (x:List Tbl) (hx:x.length≤1000000) (i:Nat) (t:Tbl) (ht:FitT t) (hf:x[i]? = some t):R K (.call 125 [.str t.nm,I (i:Int),.fn 126 [.ptr 0 0,.ptr 1 0]] (siH x i))=some (I (ordE t.nm (befN (x.map (·.nm)) i) (i==0)),siH x i):=by
 have hlt:=(List.getElem?_eq_some_iff.1 hf).1
 refine c_tallOrder _ _ _ _ _ ht.nm rfl fun hi=>?_
 obtain ⟨j,rfl⟩:∃ j,i=j+1:=⟨i - 1,by omega⟩
 obtain ⟨g,hg⟩:=some_at (l:=x) (i:=j) (by omega)
 have e:befN (x.map (·.nm)) (j+1)=g.nm:=by simp [befN,hg]
 rw [e]
 exact v_before1 x j g (by omega) hg
def bigT (t:Tbl):Bool:=decide (60 < t.cols.length)||(decide (8 < t.key.length)||(decide (20 < t.fgn.length)||decide (20 < t.idx.length)))
def tableE (x:List Tbl) (i:Nat):Int:=match x[i]? with
 | some t=>orE (ordE t.nm (befN (x.map (·.nm)) i) (i==0)) (if bigT t=true then 2 else evE (partE t) 0 4)
 | none=>0
theorem c_table (x:List Tbl) (hx:x.length≤1000000) (i:Nat) (t:Tbl) (ht:FitT t) (hf:x[i]? = some t):R K (.call 77 [schC x,I (i:Int)] [])=some (I (tableE x i),[]):=by
 have h1:=c_ord1 x hx i t ht hf
 have h2:=c_parts t ht false
 have hg:=tbl_get hf
 unfold tableE
 rw [hf]
 simp only
 generalize ordE t.nm (befN (x.map (·.nm)) i) (i==0)=y at *
 generalize evE (partE t) 0 4=z at *
 simp only [tblC,siH,foH] at h1 h2 hg
 by_cases hy:y=0
 ·subst hy
  have b1:decide ((60:Int) < (t.cols.length:Int))=decide (60 < t.cols.length):=by congr 1;simp only [eq_iff_iff];omega
  have b2:decide ((8:Int) < (t.key.length:Int))=decide (8 < t.key.length):=by congr 1;simp only [eq_iff_iff];omega
  have b3:decide ((20:Int) < (t.fgn.length:Int))=decide (20 < t.fgn.length):=by congr 1;simp only [eq_iff_iff];omega
  have b4:decide ((20:Int) < (t.idx.length:Int))=decide (20 < t.idx.length):=by congr 1;simp only [eq_iff_iff];omega
  unfold bigT
  generalize decide (60 < t.cols.length)=u1 at *
  generalize decide (8 < t.key.length)=u2 at *
  generalize decide (20 < t.fgn.length)=u3 at *
  generalize decide (20 < t.idx.length)=u4 at *
  rw [call_77]
  simp -implicitDefEqProofs only [go_sem,simprocAttr,Tryz.f77,tblC,hg,h1,bne,List.length_map,b1,b2,b3,b4,h2,ne_eq,not_false_eq_true,false_or,or_true,reduceCtorEq]
  repeat' ((first | apply split_cond | apply split_yes | apply split_no)<;>intro hc<;>simp -implicitDefEqProofs only [hc,go_sem,simprocAttr,tblC,hg,h1,bne,List.length_map,b1,b2,b3,b4,h2,ne_eq,not_false_eq_true,false_or,or_true,reduceCtorEq])
  ·simp_all [orE]
  ·simp_all [orE]
  ·simp_all [orE]
  ·simp_all [orE]
  ·simp_all [orE]
 ·have dy:(y==0)=false:=by simpa using hy
  rw [call_77]
  simp -implicitDefEqProofs only [go_sem,simprocAttr,Tryz.f77,tblC,hg,h1,bne,dy]
  all_goals simp [orE,hy]
structure FitX (x:List Tbl):Prop where
 len:x.length≤1000000
 tbl:∀ t∈x,FitT t
abbrev xH (x:List Tbl):Heap:=[.cells [.rows (x.map tblC)]]
theorem k_30 (x:List Tbl) (hx:FitX x) (i:Nat) (hi:i < x.length):R K (.call 76 [I (i:Int),.ptr 0 0] (xH x))=some (I (tableE x i),xH x):=by
 obtain ⟨t,ht⟩:=some_at hi
 have h1:=c_table x hx.len i t (hx.tbl t (List.mem_of_getElem? ht)) ht
 rw [call_76]
 simp -implicitDefEqProofs only [go_sem,simprocAttr,Tryz.f76,h1]
theorem v_30 (x:List Tbl) (hx:FitX x):Tells (xH x) (.fn 76 [.ptr 0 0]) (tableE x) x.length:=fun i hi=>by
 have hk:=k_30 x hx i hi
 simp only [xH] at hk ⊢
 simp -implicitDefEqProofs only [go_sem,simprocAttr,hk]
theorem k_28 (x:List Tbl) (hx:FitX x):R K (.call 74 [.ptr 0 0] (xH x))=some (I (evE (tableE x) 0 x.length),xH x):=by
 have hi:=c_every _ (xH x) (tableE x) x.length hx.len rfl (v_30 x hx)
 simp only [xH] at hi
 rw [call_74]
 simp -implicitDefEqProofs only [go_sem,simprocAttr,Tryz.f74,hi,List.length_map]
def NamesIn (t:Tbl) (l:List (List UInt8)):Prop:=∀ n∈l,¬ixN n (t.cols.map (·.nm)) 0 < 0
def colN (t:Tbl) (n:List UInt8):Option Col:=t.cols[(ixN n (t.cols.map (·.nm)) 0).toNat]?
def kdE (t u:Tbl) (l k:List (List UInt8)) (i:Nat):Int:=match l[i]?,k[i]? with
 | some a,some b=>(match colN t a,colN u b with
  | some c,some d=>if c.kd=d.kd then 0 else 8
  | _,_=>0)
 | _,_=>0
abbrev frH (t:Tbl) (f:Fgn) (u:Tbl):Heap:=[.cells (tblC t),.cells (fgnC f),.cells (tblC u)]
theorem k_82 (t u:Tbl) (ht:FitT t) (hu:FitT u) (f:Fgn) (i:Nat) (hi:i < f.cols.length) (hk:i < u.key.length) (h1:NamesIn t f.cols) (h2:NamesIn u u.key) :
  R K (.call 140 [I (i:Int),.ptr 0 0,.ptr 1 0,.ptr 2 0] (frH t f u))=some (I (kdE t u f.cols u.key i),frH t f u):=by
 obtain ⟨a,ha⟩:=some_at hi
 obtain ⟨b,hb⟩:=some_at hk
 obtain ⟨p,c,p1,p2⟩:=ixN_col (h1 a (List.mem_of_getElem? ha))
 obtain ⟨q,d,q1,q2⟩:=ixN_col (h2 b (List.mem_of_getElem? hb))
 have g1:=str_get ha
 have g2:=str_get hb
 have g3:=c_columnAt t a ht.cols
 have g4:=c_columnAt u b hu.cols
 rw [p1] at g3
 rw [q1] at g4
 have g5:=col_get p2
 have g6:=col_get q2
 have e1:colN t a=some c:=by unfold colN;rw [p1,Int.toNat_natCast,p2]
 have e2:colN u b=some d:=by unfold colN;rw [q1,Int.toNat_natCast,q2]
 unfold kdE
 rw [ha,hb]
 simp only
 rw [e1,e2]
 simp only
 simp only [tblA,tblC,colC] at g3 g4 g5 g6
 by_cases hd:c.kd=d.kd
 ·have dk:(c.kd==d.kd)=true:=by simpa using hd
  rw [call_140]
  simp -implicitDefEqProofs only [go_sem,simprocAttr,Tryz.f140,tblC,fgnC,colC,g1,g2,g3,g4,g5,g6,bne,dk]
  simp [hd,tblC,fgnC]
 ·have dk:(c.kd==d.kd)=false:=by simpa using hd
  rw [call_140]
  simp -implicitDefEqProofs only [go_sem,simprocAttr,Tryz.f140,tblC,fgnC,colC,g1,g2,g3,g4,g5,g6,bne,dk]
  simp [hd,tblC,fgnC]
theorem v_82 (t u:Tbl) (ht:FitT t) (hu:FitT u) (f:Fgn) (hl:f.cols.length=u.key.length) (h1:NamesIn t f.cols) (h2:NamesIn u u.key) :
  Tells (frH t f u) (.fn 140 [.ptr 0 0,.ptr 1 0,.ptr 2 0]) (kdE t u f.cols u.key) f.cols.length:=fun i hi=>by
 have hk:=k_82 t u ht hu f i hi (by omega) h1 h2
 simp only [frH,tblC,fgnC] at hk ⊢
 simp -implicitDefEqProofs only [go_sem,simprocAttr,hk]
theorem ixN_tbl {x:List Tbl} {n:List UInt8} (h:¬ixN n (x.map (·.nm)) 0 < 0):∃ (a:Nat) (c:Tbl),ixN n (x.map (·.nm)) 0=(a:Int)∧x[a]? = some c:=by
 have h1:=ixN_lt n (x.map (·.nm)) 0
 rw [List.length_map] at h1
 obtain ⟨a,ha⟩:=Int.eq_ofNat_of_zero_le (Int.not_lt.1 h)
 exact ⟨a,x[a]'(by omega),ha,List.getElem?_eq_getElem _⟩
def forE (x:List Tbl) (t:Tbl) (f:Fgn):Int:=if ixN f.tb (x.map (·.nm)) 0 < 0 then 5 else match x[(ixN f.tb (x.map (·.nm)) 0).toNat]? with
 | some u=>if f.cols.length=u.key.length then evE (kdE t u f.cols u.key) 0 f.cols.length else 3
 | none=>0
theorem c_foreign (x:List Tbl) (hx:FitX x) (t:Tbl) (ht:FitT t) (f:Fgn) (hf:f.cols.length≤1000000) (hN:NamesIn t f.cols) (hK:∀ u∈x,NamesIn u u.key) :
  R K (.call 81 [schC x,tblA t,.agg (fgnC f)] [])=some (I (forE x t f),[]):=by
 have h1:=c_tableAt x f.tb hx.len
 unfold forE
 by_cases h0:ixN f.tb (x.map (·.nm)) 0 < 0
 ·rw [if_pos h0]
  rw [call_81]
  simp -implicitDefEqProofs only [go_sem,simprocAttr,Tryz.f81,fgnC,tblC,h1,h0]
 ·obtain ⟨a,u,h5,h6⟩:=ixN_tbl h0
  have h7:=tbl_get h6
  have hm:=List.mem_of_getElem? h6
  have h9:((a:Int) < 0)=False:=eq_false (by omega)
  rw [if_neg h0,h5,Int.toNat_natCast,h6]
  rw [h5] at h1
  simp only
  simp only [tblC] at h7
  by_cases hl:f.cols.length=u.key.length
  ·have hi:=c_every _ (frH t f u) (kdE t u f.cols u.key) f.cols.length hf rfl (v_82 t u ht (hx.tbl u hm) f hl hN (hK u hm))
   have dl:((f.cols.length:Int)==(u.key.length:Int))=true:=by rw [hl,beq_iff_eq]
   simp only [frH,tblC,fgnC] at hi
   rw [if_pos hl]
   rw [call_81]
   simp -implicitDefEqProofs only [go_sem,simprocAttr,Tryz.f81,fgnC,tblC,h1,h9,h7,List.length_map,bne,dl,hi]
  ·have dl:((f.cols.length:Int)==(u.key.length:Int))=false:=by rw [←Bool.not_eq_true,beq_iff_eq];omega
   rw [if_neg hl]
   rw [call_81]
   simp -implicitDefEqProofs only [go_sem,simprocAttr,Tryz.f81,fgnC,tblC,h1,h9,h7,List.length_map,bne,dl]
theorem evE_zero {e:Nat→Int}:∀ (m j:Nat),evE e j m=0→∀ i,j≤i→i < j+m→e i=0
 | 0,j,_,i,h1,h2=>by omega
 | m+1,j,h,i,h1,h2=>by
  simp only [evE] at h
  by_cases h0:e j=0
  ·rw [if_pos h0] at h
   by_cases hi:i=j
   ·rw [hi];exact h0
   ·exact evE_zero m (j+1) h i (by omega) (by omega)
  ·rw [if_neg h0] at h
   exact absurd h h0
theorem orE_zero {a b:Int} (h:orE a b=0):a=0∧b=0:=by
 unfold orE at h
 split at h
 ·rename_i h0;exact ⟨h0,h⟩
 ·rename_i h0;exact absurd h h0
theorem listE_in {t:Tbl} {l:List (List UInt8)} {m:Col→Int} (h:listE t l m=0):NamesIn t l:=by
 intro n hn hlt
 obtain ⟨i,hi,he⟩:=List.mem_iff_getElem.1 hn
 have h1:=evE_zero l.length 0 h i (by omega) (by omega)
 unfold namesE at h1
 rw [List.getElem?_eq_getElem hi,he] at h1
 simp only at h1
 rw [if_pos hlt] at h1
 simp at h1
structure TabOk (t:Tbl):Prop where
 key:NamesIn t t.key
 fg:∀ f∈t.fgn,NamesIn t f.cols
theorem tableE_ok {x:List Tbl} {i:Nat} {t:Tbl} (ht:x[i]? = some t) (h:tableE x i=0):ordE t.nm (befN (x.map (·.nm)) i) (i==0)=0∧TabOk t:=by
 unfold tableE at h
 rw [ht] at h
 simp only at h
 obtain ⟨h1,h2⟩:=orE_zero h
 refine ⟨h1,?_⟩
 split at h2
 ·simp at h2
 have h3:=evE_zero 4 0 h2
 have k1:=h3 1 (by omega) (by omega)
 have k2:=h3 2 (by omega) (by omega)
 simp only [partE] at k1 k2
 constructor
 ·unfold keyE at k1
  split at k1
  ·simp at k1
  ·exact listE_in k1
 ·intro f hf
  obtain ⟨j,hj,rfl⟩:=List.mem_iff_getElem.1 hf
  have:=evE_zero _ 0 k2 j (by omega) (by omega)
  unfold fgnE at this
  rw [List.getElem?_eq_getElem hj] at this
  exact listE_in (orE_zero this).2
def nmA (l:List (List UInt8)) (i:Nat):List UInt8:=(l[i]?).getD []
theorem less_irr:∀ a:List UInt8,Op.bytesLess a a=false
 | []=>rfl
 | c::r=>by simp [Op.bytesLess,less_irr r]
theorem ordE_lt {s b:List UInt8} {first:Bool} (h:ordE s b first=0):first=true∨Op.bytesLess b s=true:=by
 unfold ordE at h
 split at h
 ·simp at h
 split at h
 ·simp at h
 rename_i h2
 cases first with
 | true=>exact .inl rfl
 | false =>
  refine .inr ?_
  have h3:¬(Op.bytesLess s b=true∨s=b):=fun e=>h2 ⟨rfl,e⟩
  have h4:s≠b:=fun e=>h3 (.inr e)
  have h5:Op.bytesLess s b=false:=by
   cases e:Op.bytesLess s b with
   | false=>rfl
   | true=>exact absurd (.inl e) h3
  rw [less_total b s (Ne.symm h4),h5]
  rfl
theorem names_rise {l:List (List UInt8)} (h:∀ i,i < l.length→ordE (nmA l i) (befN l i) (i==0)=0) (i:Nat):∀ j,i < j→j < l.length→Op.bytesLess (nmA l i) (nmA l j)=true
 | 0,h1,_=>by omega
 | j+1,h1,h2=>by
  have h3:Op.bytesLess (nmA l j) (nmA l (j+1))=true:=(ordE_lt (h (j+1) h2)).resolve_left (by simp)
  by_cases e:i=j
  ·rw [e];exact h3
  ·exact less_trans _ _ _ (names_rise h i j (by omega) (by omega)) h3
theorem names_inj {l:List (List UInt8)} (h:∀ i,i < l.length→ordE (nmA l i) (befN l i) (i==0)=0) {i j:Nat} (hi:i < l.length) (hj:j < l.length) (e:nmA l i=nmA l j):i=j:=by
 rcases Nat.lt_trichotomy i j with h1 | h1 | h1
 ·have:=names_rise h i j h1 hj
  rw [e,less_irr] at this;simp at this
 ·exact h1
 ·have:=names_rise h j i h1 hi
  rw [e,less_irr] at this;simp at this
def fkE (x:List Tbl) (t:Tbl) (k:Nat):Int:=match t.fgn[k]? with
 | some f=>forE x t f
 | none=>0
def forsE (x:List Tbl) (i:Nat):Int:=match x[i]? with
 | some t=>evE (fkE x t) 0 t.fgn.length
 | none=>0
def chkP (x:List Tbl):Nat→Int
 | 0=>evE (tableE x) 0 x.length
 | 1=>evE (forsE x) 0 x.length
 | _=>0
def chkE (x:List Tbl):Int:=if 60 < x.length then 2 else evE (chkP x) 0 2
structure RightX (x:List Tbl):Prop where
 inj:∀ i j,i < x.length→j < x.length→nmA (x.map (·.nm)) i=nmA (x.map (·.nm)) j→i=j
 ok:∀ t∈x,TabOk t
 leads:∀ t∈x,∀ f∈t.fgn,¬ixN f.tb (x.map (·.nm)) 0 < 0
theorem tables_ok {x:List Tbl} (h:evE (tableE x) 0 x.length=0):(∀ i,i < x.length→ordE (nmA (x.map (·.nm)) i) (befN (x.map (·.nm)) i) (i==0)=0)∧∀ t∈x,TabOk t:=by
 have h1:=evE_zero _ 0 h
 constructor
 ·intro i hi
  have:=(tableE_ok (List.getElem?_eq_getElem hi) (h1 i (by omega) (by omega))).1
  have e:nmA (x.map (·.nm)) i=(x[i]).nm:=by simp [nmA,hi]
  rw [e]
  exact this
 ·intro t ht
  obtain ⟨i,hi,rfl⟩:=List.mem_iff_getElem.1 ht
  exact (tableE_ok (List.getElem?_eq_getElem hi) (h1 i (by omega) (by omega))).2
theorem chk_right {x:List Tbl} (h:chkE x=0):RightX x:=by
 unfold chkE at h
 split at h
 ·simp at h
 have h1:=evE_zero 2 0 h
 have k0:=h1 0 (by omega) (by omega)
 have k1:=h1 1 (by omega) (by omega)
 simp only [chkP] at k0 k1
 obtain ⟨a1,a2⟩:=tables_ok k0
 refine ⟨fun i j hi hj e=>names_inj (by simpa using a1) (by simpa using hi) (by simpa using hj) e,a2,?_⟩
 intro t ht f hf hlt
 obtain ⟨i,hi,rfl⟩:=List.mem_iff_getElem.1 ht
 obtain ⟨k,hk,rfl⟩:=List.mem_iff_getElem.1 hf
 have b1:=evE_zero _ 0 k1 i (by omega) (by omega)
 unfold forsE at b1
 rw [List.getElem?_eq_getElem hi] at b1
 have b2:=evE_zero _ 0 b1 k (by omega) (by omega)
 unfold fkE at b2
 rw [List.getElem?_eq_getElem hk] at b2
 simp only [forE] at b2
 rw [if_pos hlt] at b2
 simp at b2
abbrev xtH (x:List Tbl) (t:Tbl):Heap:=[.cells [.rows (x.map tblC)],.cells (tblC t)]
theorem k_34 (x:List Tbl) (hx:FitX x) (t:Tbl) (ht:FitT t) (hO:∀ f∈t.fgn,NamesIn t f.cols) (hK:∀ u∈x,NamesIn u u.key) (i:Nat) (hi:i < t.fgn.length) :
  R K (.call 80 [I (i:Int),.ptr 0 0,.ptr 1 0] (xtH x t))=some (I (fkE x t i),xtH x t):=by
 obtain ⟨f,hf⟩:=some_at hi
 have hg:=fgn_get hf
 have hm:=List.mem_of_getElem? hf
 have h1:=c_foreign x hx t ht f (ht.fg f hm).2 (hO f hm) hK
 unfold fkE
 rw [hf]
 simp only
 simp only [tblA,tblC,fgnC] at hg h1
 rw [call_80]
 simp -implicitDefEqProofs only [go_sem,simprocAttr,Tryz.f80,tblC,fgnC,hg,h1]
 rfl
theorem v_34 (x:List Tbl) (hx:FitX x) (t:Tbl) (ht:FitT t) (hO:∀ f∈t.fgn,NamesIn t f.cols) (hK:∀ u∈x,NamesIn u u.key):Tells (xtH x t) (.fn 80 [.ptr 0 0,.ptr 1 0]) (fkE x t) t.fgn.length:=fun i hi=>by
 have hk:=k_34 x hx t ht hO hK i hi
 simp only [xtH,tblC] at hk ⊢
 simp -implicitDefEqProofs only [go_sem,simprocAttr,hk]
theorem k_33 (x:List Tbl) (hx:FitX x) (hO:∀ t∈x,TabOk t) (i:Nat) (hi:i < x.length) :
  R K (.call 79 [I (i:Int),.ptr 0 0] (xH x))=some (I (forsE x i),xH x):=by
 obtain ⟨t,ht⟩:=some_at hi
 have hm:=List.mem_of_getElem? ht
 have hg:=tbl_get ht
 have h1:=c_every _ (xtH x t) (fkE x t) t.fgn.length (hx.tbl t hm).fgn rfl (v_34 x hx t (hx.tbl t hm) (hO t hm).fg fun u hu=>(hO u hu).key)
 unfold forsE
 rw [ht]
 simp only
 simp only [xtH,tblC] at h1 hg
 rw [call_79]
 simp -implicitDefEqProofs only [go_sem,simprocAttr,Tryz.f79,tblC,hg,h1,List.length_map]
theorem v_33 (x:List Tbl) (hx:FitX x) (hO:∀ t∈x,TabOk t):Tells (xH x) (.fn 79 [.ptr 0 0]) (forsE x) x.length:=fun i hi=>by
 have hk:=k_33 x hx hO i hi
 simp only [xH] at hk ⊢
 simp -implicitDefEqProofs only [go_sem,simprocAttr,hk]
theorem k_32 (x:List Tbl) (hx:FitX x) (hO:∀ t∈x,TabOk t):R K (.call 78 [.ptr 0 0] (xH x))=some (I (evE (forsE x) 0 x.length),xH x):=by
 have hi:=c_every _ (xH x) (forsE x) x.length hx.len rfl (v_33 x hx hO)
 simp only [xH] at hi
 rw [call_78]
 simp -implicitDefEqProofs only [go_sem,simprocAttr,Tryz.f78,hi,List.length_map]
abbrev csH (x:List Tbl) (w:Bool):Heap:=[.rows 1 [[.fn 74 [.ptr 1 0]],[.fn 78 [.ptr 1 0]]] w,.cells [.rows (x.map tblC)]]
theorem c_two (x:List Tbl) (hx:FitX x) (w:Bool):R K (.call 73 [.own 0 2] (csH x w))=some (I (evE (chkP x) 0 2),csH x w):=by
 refine c_first (csH x w) 0 w [.fn 74 [.ptr 1 0],.fn 78 [.ptr 1 0]] 2 (chkP x) rfl (by omega) rfl rfl ?_
 intro j f hz hf
 have h0:=k_28 x hx
 simp only [xH] at h0
 match j,hf with
 | 0,hf =>
  simp only [List.getElem?_cons_zero,Option.some.injEq] at hf
  subst hf
  simp only [csH,chkP]
  simp -implicitDefEqProofs only [go_sem,simprocAttr,h0]
 | 1,hf =>
  simp only [List.getElem?_cons_succ,List.getElem?_cons_zero,Option.some.injEq] at hf
  subst hf
  have hz0:=hz 0 (by omega)
  simp only [chkP] at hz0
  have h1:=k_32 x hx (tables_ok hz0).2
  simp only [xH] at h1
  simp only [csH,chkP]
  simp -implicitDefEqProofs only [go_sem,simprocAttr,h1]
 | j+2,hf=>simp at hf
theorem c_CheckSchema (x:List Tbl) (hx:FitX x):R K (.call 33 [schC x] [])=some (I (chkE x),[]):=by
 have h2:=c_two x hx false
 have h0:=hx.len
 unfold chkE
 generalize evE (chkP x) 0 2=z at *
 simp only [csH] at h2
 by_cases b:60 < x.length
 ·have d:((60:Int) < (x.length:Int))=True:=eq_true (by omega)
  rw [if_pos b]
  rw [call_33]
  simp -implicitDefEqProofs only [go_sem,simprocAttr,Tryz.f33,List.length_map,d]
 ·have d:((60:Int) < (x.length:Int))=False:=eq_false (by omega)
  rw [if_neg b]
  rw [call_33]
  simp -implicitDefEqProofs only [go_sem,simprocAttr,Tryz.f33,List.length_map,d,h2,ne_eq,not_false_eq_true,false_or,or_true,reduceCtorEq]
def nmX (x:List Tbl) (i:Nat):List UInt8:=nmA (x.map (·.nm)) i
def toN (x:List Tbl) (f:Fgn):Nat:=(ixN f.tb (x.map (·.nm)) 0).toNat
def toL (x:List Tbl) (i:Nat):List Nat:=match x[i]? with
 | some t=>t.fgn.map (toN x)
 | none=>[]
def baseM (x:List Tbl):Mx:=fun i j=>(toL x i).contains j
def reachM (x:List Tbl):Mx:=wIter (baseM x) x.length
theorem toL_at {x:List Tbl} {i:Nat} {t:Tbl} (h:x[i]? = some t):toL x i=t.fgn.map (toN x):=by
 unfold toL
 rw [h]
theorem nmX_at {x:List Tbl} {i:Nat} {t:Tbl} (h:x[i]? = some t):nmX x i=t.nm:=by simp [nmX,nmA,h]
theorem toN_is {x:List Tbl} (h:RightX x) {t:Tbl} (ht:t∈x) {f:Fgn} (hf:f∈t.fgn):toN x f < x.length∧nmX x (toN x f)=f.tb∧ixN f.tb (x.map (·.nm)) 0=(toN x f:Int):=by
 have h1:=h.leads t ht f hf
 have h2:=ixN_lt f.tb (x.map (·.nm)) 0
 rw [List.length_map] at h2
 have h3:ixN f.tb (x.map (·.nm)) 0=(toN x f:Int):=by unfold toN;omega
 have h4:=ixN_at f.tb (x.map (·.nm)) 0 (toN x f) h3
 refine ⟨by omega,?_,h3⟩
 unfold nmX nmA
 rw [Nat.sub_zero] at h4
 rw [h4.2]
 rfl
theorem toL_lt {x:List Tbl} (h:RightX x) {i j:Nat} (hj:j∈toL x i):j < x.length:=by
 unfold toL at hj
 cases e:x[i]? with
 | none=>rw [e] at hj;simp at hj
 | some t =>
  rw [e] at hj
  obtain ⟨f,hf,rfl⟩:=List.mem_map.1 hj
  exact (toN_is h (List.mem_of_getElem? e) hf).1
def nextF (p:Nat→Bool):Nat→Nat→Option Nat
 | _,0=>none
 | j,m+1=>if p j=true then some j else nextF p (j+1) m
theorem nextF_some {p:Nat→Bool} {i:Nat}:∀ m j,nextF p j m=some i→j≤i∧i < j+m∧p i=true
 | 0,j,h=>by simp [nextF] at h
 | m+1,j,h=>by
  unfold nextF at h
  split at h
  ·rename_i hp
   obtain rfl:=Option.some.inj h
   exact ⟨Nat.le_refl _,by omega,hp⟩
  ·have:=nextF_some m (j+1) h
   exact ⟨by omega,by omega,this.2.2⟩
theorem nextF_none {p:Nat→Bool}:∀ m j,nextF p j m=none→∀ i,j≤i→i < j+m→p i=false
 | 0,j,_,i,h1,h2=>by omega
 | m+1,j,h,i,h1,h2=>by
  unfold nextF at h
  split at h
  ·simp at h
  ·rename_i hp
   by_cases e:i=j
   ·rw [e];simpa using hp
   ·exact nextF_none m (j+1) h i (by omega) (by omega)
def freeB (x:List Tbl) (o:List Nat) (i:Nat):Bool:=!o.contains i&&!waitB (reachM x) (toL x i) (fun j=>o.contains j) i
def ordN (x:List Tbl):Nat→List Nat→List Nat
 | 0,o=>o
 | m+1,o=>match nextF (freeB x o) 0 x.length with
  | some i=>ordN x m (o++[i])
  | none=>o
theorem next_is {x:List Tbl} (h:RightX x) (o:List Nat) (ho:o.length < x.length):∃ i,nextF (freeB x o) 0 x.length=some i∧i < x.length∧freeB x o i=true:=by
 cases e:nextF (freeB x o) 0 x.length with
 | some i =>
  have:=nextF_some _ 0 e
  exact ⟨i,rfl,by omega,this.2.2⟩
 | none =>
  obtain ⟨i,hi,hs⟩:=not_all o x.length ho
  obtain ⟨j,hj,h1,h2⟩:=some_free x.length (reachM x) (toL x) (fun j=>o.contains j) (wIter_tr _ _) (fun i hi j hj=>⟨toL_lt h hj,wIter_le (by simpa [baseM] using hj) _⟩) _ i hi hs (Nat.le_refl _)
  have h3:=nextF_none _ 0 e j (by omega) (by omega)
  simp only [freeB,h1,h2] at h3
  simp at h3
def anyF (p:Nat→Bool):Nat→Nat→Bool
 | _,0=>false
 | j,m+1=>p j||anyF p (j+1) m
def circB (x:List Tbl) (i j:Nat):Bool:=!(i==j)&&(reachM x i j&&reachM x j i)
def circN (x:List Tbl):Nat→Nat→List Nat
 | _,0=>[]
 | i,m+1=>(if anyF (circB x i) 0 x.length=true then [i] else [])++circN x (i+1) m
theorem in_names {x:List Tbl} (h:RightX x) {o:List Nat} (ho:∀ j∈o,j < x.length) {i:Nat} (hi:i < x.length):(o.map (nmX x)).contains (nmX x i)=o.contains i:=by
 rw [Bool.eq_iff_iff,List.contains_iff_mem,List.contains_iff_mem,List.mem_map]
 constructor
 ·rintro ⟨j,hj,e⟩
  rw [←h.inj j i (ho j hj) hi e]
  exact hj
 ·exact fun h=>⟨i,h,rfl⟩
abbrev fgnA (f:Fgn):AV:=.agg (fgnC f)
def ixP (p:Fgn→Bool):List Fgn→Nat→Int
 | [],_=>-1
 | c::r,i=>if p c=true then (i:Int) else ixP p r (i+1)
theorem ixP_any (p:Fgn→Bool):∀ (l:List Fgn) (i:Nat),decide (0≤ixP p l i)=l.any p
 | [],i=>by simp [ixP]
 | c::r,i=>by
  unfold ixP
  rw [List.any_cons]
  by_cases h:p c=true
  ·rw [if_pos h,h,Bool.true_or]
   simp
  ·rw [if_neg h,Bool.eq_false_iff.2 h,Bool.false_or]
   exact ixP_any p r (i+1)
theorem l_ixFgn (f:AV) (h:Heap) (p:Fgn→Bool) (hu:under h.length (locsH h)=true) (l:List Fgn) (hl:l.length≤1000000) (hc:∀ c∈l,callV nlA (R K) h [fgnA c] f=some (.bool (p c),h)) (ks:List It) :
  ∀ (q j:Nat) (i:Int) (Bo:Code),Loop Tryz.f114 0 Bo→i=(j:Int)→l.length=j+q →
  RL K (.run 114 h.length (.code Bo::.lp Bo (some ([0,1,7,8],[])) h.length::.blk 0 h.length::ks) [(0,.rows (l.map fgnC)),(1,f),(7,I (l.length:Int)),(8,I i)] h) =
  if ixP p (l.drop j) j=-1 then R K (.run 114 h.length ks [] h) else some (I (ixP p (l.drop j) j),h)
 | 0,j,i,Bo,hB,hi,hq=>by
  subst hi
  have d:¬(j:Int) < (l.length:Int):=by omega
  rw [List.drop_of_length_le (by omega),show ixP p [] j=-1 from rfl,if_pos rfl]
  unfold Loop at hB
  simp -implicitDefEqProofs only [go_sem,simprocAttr,Tryz.f114,loopOf] at hB
  subst hB
  rw [RL_eq]
  simp -implicitDefEqProofs only [go_sem,simprocAttr,d]
 | q+1,j,i,Bo,hB,hi,hq=>by
  subst hi
  have hB':=hB
  have d:(j:Int) < (l.length:Int):=by omega
  have h7:wrapI .i64 ((j:Int)+1)=((j+1:Nat):Int):=by rw [wrap_id (by omega) (by omega)];omega
  obtain ⟨c,hcj⟩:∃ c,l[j]? = some c:=⟨l[j]'(by omega),List.getElem?_eq_getElem _⟩
  have hg:=fgn_get hcj
  have hx:=hc c (List.mem_of_getElem? hcj)
  have ih:=l_ixFgn f h p hu l hl hc ks q (j+1) _ Bo hB' rfl (by omega)
  rw [drop_get hcj]
  simp only [fgnA,fgnC] at hg hx
  by_cases hk:p c=true
  ·have e1:ixP p (c::l.drop (j+1)) j=(j:Int):=by simp only [ixP];rw [if_pos hk]
   rw [hk] at hx
   rw [e1,if_neg (by omega)]
   unfold Loop at hB
   simp -implicitDefEqProofs only [go_sem,simprocAttr,Tryz.f114,loopOf] at hB
   subst hB
   rw [RL_eq]
   simp -implicitDefEqProofs only [go_sem,simprocAttr,d,h7,hg,hx,hu]
  ·have e1:ixP p (c::l.drop (j+1)) j=ixP p (l.drop (j+1)) (j+1):=by conv=>lhs;simp only [ixP];rw [if_neg hk]
   rw [Bool.eq_false_iff.2 hk] at hx
   rw [e1]
   unfold Loop at hB
   simp -implicitDefEqProofs only [go_sem,simprocAttr,Tryz.f114,loopOf] at hB
   subst hB
   rw [RL_eq]
   simp -implicitDefEqProofs only [go_sem,simprocAttr,d,h7,hg,hx,hu]
   rw [ih]
theorem c_ixFgn (f:AV) (h:Heap) (p:Fgn→Bool) (hu:under h.length (locsH h)=true) (l:List Fgn) (hl:l.length≤1000000) (hc:∀ c∈l,callV nlA (R K) h [fgnA c] f=some (.bool (p c),h)) :
  R K (.call 114 [.rows (l.map fgnC),f] h)=some (I (ixP p l 0),h):=by
 have lk:=fun ks B hB=>l_ixFgn f h p hu l hl hc ks l.length 0 0 B hB rfl (by omega)
 simp only [List.drop_zero] at lk
 rw [call_114]
 simp -implicitDefEqProofs only [go_sem,simprocAttr,Tryz.f114,List.length_map]
 rw [lk _ _ ?_]
 ·split
  ·rename_i h0
   rw [h0]
   simp -implicitDefEqProofs only [go_sem,simprocAttr,hu]
  ·rfl
 ·rfl
abbrev fineM:Col→Int:=fun _=>0
theorem namesE_fine {t:Tbl} {l:List (List UInt8)} {j:Nat} {n:List UInt8} (hn:l[j]? = some n):namesE t l fineM j=if ixN n (t.cols.map (·.nm)) 0 < 0 then 5 else if (l.take j).contains n=true then 6 else 0:=by
 unfold namesE
 rw [hn]
 simp only
 split
 ·rfl
 ·split
  ·rfl
  ·split<;>rfl
theorem evE_more {e:Nat→Int} {j q:Nat} (h:e j=0):evE e j (q+1)=evE e (j+1) q:=by simp only [evE];rw [if_pos h]
theorem evE_here {e:Nat→Int} {j q:Nat} (h:e j≠0):evE e j (q+1)=e j:=by simp only [evE];rw [if_neg h]
theorem l_columnsFault (t:Tbl) (ht:t.cols.length≤1000000) (l:List (List UInt8)) (hl:l.length≤1000000) (ks:List It):∀ (q j:Nat) (i:Int) (Bo:Code),Loop Tryz.f112 0 Bo→i=(j:Int)→l.length=j+q →
  RL K (.run 112 0 (.code Bo::.lp Bo (some ([1,2,7,8,9],[])) 1::.blk 0 1::ks) [(1,.rows (SLs l)),(2,.ptr 0 0),(7,.rows (SLs l)),(8,I (l.length:Int)),(9,I i)] (tbH t)) =
  if evE (namesE t l fineM) j q=0 then R K (.run 112 0 ks [] (tbH t)) else some (I (evE (namesE t l fineM) j q),[])
 | 0,j,i,Bo,hB,hi,hq=>by
  subst hi
  have d:¬(j:Int) < (l.length:Int):=by omega
  unfold Loop at hB
  simp -implicitDefEqProofs only [go_sem,simprocAttr,Tryz.f112,loopOf] at hB
  subst hB
  rw [RL_eq]
  simp -implicitDefEqProofs only [go_sem,simprocAttr,d,evE]
 | q+1,j,i,Bo,hB,hi,hq=>by
  subst hi
  have hB':=hB
  have d:(j:Int) < (l.length:Int):=by omega
  have h7:wrapI .i64 ((j:Int)+1)=((j+1:Nat):Int):=next_id (n:=l.length) (by omega) (by omega)
  obtain ⟨n,hn⟩:=some_at (l:=l) (i:=j) (by omega)
  have hg:=str_get hn
  have h2:=r_columnAt t n ht
  have h3:=c_contains n (l.take j) (by simp;omega)
  have g1:((j:Int)≤(l.length:Int))=True:=eq_true (by omega)
  have g2:((0:Int)≤(j:Int))=True:=eq_true (by omega)
  have hN:=namesE_fine (t:=t) hn
  have ih:=l_columnsFault t ht l hl ks q (j+1) _ Bo hB' rfl (by omega)
  simp only [tblA,tblC] at h2
  by_cases h4:ixN n (t.cols.map (·.nm)) 0 < 0
  ·rw [if_pos h4] at hN
   rw [evE_here (by rw [hN];decide),hN,if_neg (by decide)]
   unfold Loop at hB
   simp -implicitDefEqProofs only [go_sem,simprocAttr,Tryz.f112,loopOf] at hB
   subst hB
   rw [RL_eq]
   simp -implicitDefEqProofs only [go_sem,simprocAttr,tblC,d,h7,hg,h2,h4]
  ·rw [if_neg h4] at hN
   have h9:(ixN n (t.cols.map (·.nm)) 0 < 0)=False:=eq_false h4
   by_cases h5:(l.take j).contains n=true
   ·rw [if_pos h5] at hN
    rw [h5] at h3
    rw [evE_here (by rw [hN];decide),hN,if_neg (by decide)]
    unfold Loop at hB
    simp -implicitDefEqProofs only [go_sem,simprocAttr,Tryz.f112,loopOf] at hB
    subst hB
    rw [RL_eq]
    simp -implicitDefEqProofs only [go_sem,simprocAttr,tblC,d,h7,hg,h2,h9,h3,take_SLs,allLen_SLs,g1,g2,Int.toNat_natCast,Nat.sub_zero,List.length_map]
   ·rw [if_neg h5] at hN
    rw [Bool.eq_false_iff.2 h5] at h3
    rw [evE_more hN]
    unfold Loop at hB
    simp -implicitDefEqProofs only [go_sem,simprocAttr,Tryz.f112,loopOf] at hB
    subst hB
    rw [RL_eq]
    simp -implicitDefEqProofs only [go_sem,simprocAttr,tblC,d,h7,hg,h2,h9,h3,take_SLs,allLen_SLs,g1,g2,Int.toNat_natCast,Nat.sub_zero,List.length_map]
    simp only [tbH,tblC] at ih
    rw [ih]
    rfl
theorem r_columnsFault (t:Tbl) (ht:t.cols.length≤1000000) (l:List (List UInt8)) (hl:l.length≤1000000):R K (.call 112 [tblA t,.rows (SLs l)] [])=some (I (listE t l fineM),[]):=by
 have lk:=fun ks B hB=>l_columnsFault t ht l hl ks l.length 0 0 B hB rfl (by omega)
 simp only [tbH,tblC] at lk
 unfold listE
 rw [call_112]
 simp -implicitDefEqProofs only [go_sem,simprocAttr,Tryz.f112,tblC,List.length_map]
 rw [lk _ _ ?_]
 ·split
  ·rename_i h0
   rw [h0]
   simp -implicitDefEqProofs only [go_sem,simprocAttr]
  ·rfl
 ·rfl
theorem take_cols (l:List Col) (i:Nat):List.take i (l.map colC)=(l.take i).map colC:=by simp [List.map_take]
theorem allLen_cols:∀ l:List Col,allLen 6 (l.map colC)=true
 | []=>rfl
 | c::l=>by simpa [allLen,colC] using allLen_cols l
theorem ix_ahead {l:List Col} {j:Nat} {c:Col} (h:l[j]? = some c):decide (0≤ixN c.nm ((l.take j).map (·.nm)) 0)=decide (ixN c.nm (l.map (·.nm)) 0 < (j:Int)):=by
 have hm:c.nm∈l.map (·.nm):=List.mem_map.2 ⟨c,List.mem_of_getElem? h,rfl⟩
 have h1:=ixN_take c.nm (l.map (·.nm)) 0 j hm
 rw [Nat.zero_add,←List.map_take] at h1
 have h2:=ixN_mem c.nm ((l.take j).map (·.nm)) 0
 congr 1
 rw [eq_iff_iff,h1]
 rcases ixN_ge c.nm ((l.take j).map (·.nm)) 0 with h3 | h3
 ·rw [h3]
  constructor
  ·intro h;omega
  ·intro h;exact absurd h (h2.1 h3)
 ·constructor
  ·intro _
   refine Classical.byContradiction fun h4=>?_
   have:=h2.2 h4
   omega
  ·intro _;omega
theorem l_tcols (t:Tbl) (ht:FitT t) (ks:List It):∀ (q j:Nat) (i:Int) (Bo:Code),Loop Tryz.f60 0 Bo→i=(j:Int)→t.cols.length=j+q →
  RL K (.run 60 0 (.code Bo::.lp Bo (some ([1,41,42,43],[])) 1::.blk 0 1::ks) [(1,.ptr 0 0),(41,.rows (t.cols.map colC)),(42,I (t.cols.length:Int)),(43,I i)] (tbH t)) =
  if evE (colE t) j q=0 then R K (.run 60 0 ks [(1,.ptr 0 0)] (tbH t)) else some (I (evE (colE t) j q),[])
 | 0,j,i,Bo,hB,hi,hq=>by
  subst hi
  have d:¬(j:Int) < (t.cols.length:Int):=by omega
  unfold Loop at hB
  simp -implicitDefEqProofs only [go_sem,simprocAttr,Tryz.f60,loopOf] at hB
  subst hB
  rw [RL_eq]
  simp -implicitDefEqProofs only [go_sem,simprocAttr,d,evE]
 | q+1,j,i,Bo,hB,hi,hq=>by
  subst hi
  have hB':=hB
  have hlen:=ht.cols
  have d:(j:Int) < (t.cols.length:Int):=by omega
  have h7:wrapI .i64 ((j:Int)+1)=((j+1:Nat):Int):=next_id (n:=t.cols.length) (by omega) (by omega)
  obtain ⟨c,hc⟩:=some_at (l:=t.cols) (i:=j) (by omega)
  have hg:=col_get hc
  have hm:c∈t.cols:=List.mem_of_getElem? hc
  have g1:((j:Int)≤(t.cols.length:Int))=True:=eq_true (by omega)
  have g2:((0:Int)≤(j:Int))=True:=eq_true (by omega)
  have h1:=r_named c.nm (ht.col c hm)
  have h2:=r_columnAt ⟨[],t.cols.take j,[],[],[]⟩ c.nm (by simp;omega)
  have h3:=ix_ahead hc
  have h4:=r_ValueFault c.kd c.df.k c.df.n c.df.s
  have ih:=l_tcols t ht ks q (j+1) _ Bo hB' rfl (by omega)
  have hN:colE t j=if tallB c.nm=false then 5 else if ixN c.nm (t.cols.map (·.nm)) 0 < (j:Int) then 6 else chkS c.kd c.df:=by
   unfold colE;rw [hc]
  simp only [tblA,tblC,colC,List.map_nil] at h2 hg
  generalize chkS c.kd ⟨c.df.k,c.df.n,c.df.s⟩=y at *
  by_cases a:tallB c.nm=false
  ·rw [if_pos a] at hN
   rw [a] at h1
   rw [evE_here (by rw [hN];decide),hN,if_neg (by decide)]
   unfold Loop at hB
   simp -implicitDefEqProofs only [go_sem,simprocAttr,Tryz.f60,loopOf] at hB
   subst hB
   rw [RL_eq]
   simp -implicitDefEqProofs only [go_sem,simprocAttr,tblC,colC,d,h7,hg,h1]
  ·rw [if_neg a] at hN
   rw [Bool.not_eq_false] at a
   rw [a] at h1
   by_cases b:ixN c.nm (t.cols.map (·.nm)) 0 < (j:Int)
   ·rw [if_pos b] at hN
    rw [decide_eq_true b] at h3
    rw [evE_here (by rw [hN];decide),hN,if_neg (by decide)]
    unfold Loop at hB
    simp -implicitDefEqProofs only [go_sem,simprocAttr,Tryz.f60,loopOf] at hB
    subst hB
    rw [RL_eq]
    simp -implicitDefEqProofs only [go_sem,simprocAttr,tblC,colC,d,h7,hg,h1,h2,h3,take_cols,allLen_cols,g1,g2,Int.toNat_natCast,Nat.sub_zero,List.length_map]
   ·rw [if_neg b] at hN
    rw [decide_eq_false b] at h3
    by_cases e:y=0
    ·rw [e] at hN h4
     rw [evE_more hN]
     unfold Loop at hB
     simp -implicitDefEqProofs only [go_sem,simprocAttr,Tryz.f60,loopOf] at hB
     subst hB
     rw [RL_eq]
     simp -implicitDefEqProofs only [go_sem,simprocAttr,tblC,colC,d,h7,hg,h1,h2,h3,h4,take_cols,allLen_cols,g1,g2,Int.toNat_natCast,Nat.sub_zero,List.length_map,bne]
     simp only [tbH,tblC] at ih
     rw [ih]
     rfl
    ·have de:(y==0)=false:=by simpa using e
     rw [evE_here (by rw [hN];exact e),hN,if_neg e]
     unfold Loop at hB
     simp -implicitDefEqProofs only [go_sem,simprocAttr,Tryz.f60,loopOf] at hB
     subst hB
     rw [RL_eq]
     simp -implicitDefEqProofs only [go_sem,simprocAttr,tblC,colC,d,h7,hg,h1,h2,h3,h4,take_cols,allLen_cols,g1,g2,Int.toNat_natCast,Nat.sub_zero,List.length_map,bne,de]
theorem namesE_key {t:Tbl} {l:List (List UInt8)} {j:Nat} {n:List UInt8} (hn:l[j]? = some n):namesE t l keyM j=if ixN n (t.cols.map (·.nm)) 0 < 0 then 5 else if (l.take j).contains n=true then 6 else (match t.cols[(ixN n (t.cols.map (·.nm)) 0).toNat]? with
  | some c=>keyM c
  | none=>0):=by
 unfold namesE
 rw [hn]
 try rfl
theorem l_tkey (t:Tbl) (ht:FitT t) (ks:List It):∀ (q j:Nat) (i:Int) (Bo:Code),Loop Tryz.f60 3 Bo→i=(j:Int)→t.key.length=j+q →
  RL K (.run 60 0 (.code Bo::.lp Bo (some ([1,77,78,79],[])) 1::.blk 3 1::ks) [(1,.ptr 0 0),(77,.rows (SLs t.key)),(78,I (t.key.length:Int)),(79,I i)] (tbH t)) =
  if evE (namesE t t.key keyM) j q=0 then R K (.run 60 0 ks [(1,.ptr 0 0)] (tbH t)) else some (I (evE (namesE t t.key keyM) j q),[])
 | 0,j,i,Bo,hB,hi,hq=>by
  subst hi
  have d:¬(j:Int) < (t.key.length:Int):=by omega
  unfold Loop at hB
  simp -implicitDefEqProofs only [go_sem,simprocAttr,Tryz.f60,loopOf] at hB
  subst hB
  rw [RL_eq]
  simp -implicitDefEqProofs only [go_sem,simprocAttr,d,evE]
 | q+1,j,i,Bo,hB,hi,hq=>by
  subst hi
  have hB':=hB
  have hlen:=ht.key
  have d:(j:Int) < (t.key.length:Int):=by omega
  have h7:wrapI .i64 ((j:Int)+1)=((j+1:Nat):Int):=next_id (n:=t.key.length) (by omega) (by omega)
  obtain ⟨n,hn⟩:=some_at (l:=t.key) (i:=j) (by omega)
  have hg:=str_get hn
  have h2:=r_columnAt t n ht.cols
  have h3:=c_contains n (t.key.take j) (by simp;omega)
  have g1:((j:Int)≤(t.key.length:Int))=True:=eq_true (by omega)
  have g2:((0:Int)≤(j:Int))=True:=eq_true (by omega)
  have hN:=namesE_key (t:=t) hn
  have ih:=l_tkey t ht ks q (j+1) _ Bo hB' rfl (by omega)
  simp only [tblA,tblC] at h2
  by_cases h4:ixN n (t.cols.map (·.nm)) 0 < 0
  ·rw [if_pos h4] at hN
   rw [evE_here (by rw [hN];decide),hN,if_neg (by decide)]
   unfold Loop at hB
   simp -implicitDefEqProofs only [go_sem,simprocAttr,Tryz.f60,loopOf] at hB
   subst hB
   rw [RL_eq]
   simp -implicitDefEqProofs only [go_sem,simprocAttr,tblC,d,h7,hg,h2,h4]
  ·obtain ⟨a,c,h5,h6⟩:=ixN_col h4
   have h8:=col_get h6
   rw [if_neg h4,h5,Int.toNat_natCast,h6] at hN
   simp only at hN
   rw [h5] at h2
   have h9:((a:Int) < 0)=False:=eq_false (by omega)
   simp only [colC] at h8
   by_cases b:(t.key.take j).contains n=true
   ·rw [if_pos b] at hN
    rw [b] at h3
    rw [evE_here (by rw [hN];decide),hN,if_neg (by decide)]
    unfold Loop at hB
    simp -implicitDefEqProofs only [go_sem,simprocAttr,Tryz.f60,loopOf] at hB
    subst hB
    rw [RL_eq]
    simp -implicitDefEqProofs only [go_sem,simprocAttr,tblC,d,h7,hg,h2,h9,h3,take_SLs,allLen_SLs,g1,g2,Int.toNat_natCast,Nat.sub_zero,List.length_map]
   ·rw [if_neg b] at hN
    rw [Bool.eq_false_iff.2 b] at h3
    rw [show keyM c=if c.nl=true then 9 else 0 from rfl] at hN
    by_cases e:c.nl=true
    ·rw [if_pos e] at hN
     rw [e] at h8
     rw [evE_here (by rw [hN];decide),hN,if_neg (by decide)]
     unfold Loop at hB
     simp -implicitDefEqProofs only [go_sem,simprocAttr,Tryz.f60,loopOf] at hB
     subst hB
     rw [RL_eq]
     simp -implicitDefEqProofs only [go_sem,simprocAttr,tblC,colC,d,h7,hg,h2,h9,h3,h8,take_SLs,allLen_SLs,g1,g2,Int.toNat_natCast,Nat.sub_zero,List.length_map]
    ·rw [if_neg e] at hN
     rw [Bool.eq_false_iff.2 e] at h8
     rw [evE_more hN]
     unfold Loop at hB
     simp -implicitDefEqProofs only [go_sem,simprocAttr,Tryz.f60,loopOf] at hB
     subst hB
     rw [RL_eq]
     simp -implicitDefEqProofs only [go_sem,simprocAttr,tblC,colC,d,h7,hg,h2,h9,h3,h8,take_SLs,allLen_SLs,g1,g2,Int.toNat_natCast,Nat.sub_zero,List.length_map]
     simp only [tbH,tblC] at ih
     rw [ih]
     rfl
theorem max_pred {j:Nat} (h:j≤1000000):(if wrapI .i64 ((j:Int) - 1) < 0 then (0:Int) else wrapI .i64 ((j:Int) - 1))=((j - 1:Nat):Int):=by
 rw [wrap_id (by omega) (by omega)]
 split<;>omega
theorem befN_at {α:Type} {f:α→List UInt8} {l:List α} {j:Nat} {g:α} (h:l[j - 1]? = some g):befN (l.map f) j=f g:=by simp [befN,h]
theorem l_tfgn (t:Tbl) (ht:FitT t) (ks:List It):∀ (q j:Nat) (i:Int) (Bo:Code),Loop Tryz.f60 6 Bo→i=(j:Int)→t.fgn.length=j+q →
  RL K (.run 60 0 (.code Bo::.lp Bo (some ([1,106,107,108],[])) 1::.blk 6 1::ks) [(1,.ptr 0 0),(106,.rows (t.fgn.map fgnC)),(107,I (t.fgn.length:Int)),(108,I i)] (tbH t)) =
  if evE (fgnE t) j q=0 then R K (.run 60 0 ks [(1,.ptr 0 0)] (tbH t)) else some (I (evE (fgnE t) j q),[])
 | 0,j,i,Bo,hB,hi,hq=>by
  subst hi
  have d:¬(j:Int) < (t.fgn.length:Int):=by omega
  unfold Loop at hB
  simp -implicitDefEqProofs only [go_sem,simprocAttr,Tryz.f60,loopOf] at hB
  subst hB
  rw [RL_eq]
  simp -implicitDefEqProofs only [go_sem,simprocAttr,d,evE]
 | q+1,j,i,Bo,hB,hi,hq=>by
  subst hi
  have hB':=hB
  have hlen:=ht.fgn
  have d:(j:Int) < (t.fgn.length:Int):=by omega
  have h7:wrapI .i64 ((j:Int)+1)=((j+1:Nat):Int):=next_id (n:=t.fgn.length) (by omega) (by omega)
  obtain ⟨f,hf⟩:=some_at (l:=t.fgn) (i:=j) (by omega)
  obtain ⟨g,hgg⟩:=some_at (l:=t.fgn) (i:=j - 1) (by omega)
  have hg:=fgn_get hf
  have hg2:=fgn_get hgg
  have hm:=List.mem_of_getElem? hf
  have hb:befN (t.fgn.map (·.nm)) j=g.nm:=befN_at (f:=(·.nm)) hgg
  have hmx:=max_pred (j:=j) (by omega)
  have e0:((j:Int)==0)=(j==0):=by rw [Bool.eq_iff_iff,beq_iff_eq,beq_iff_eq];omega
  have h1:=r_ordered f.nm g.nm (j==0) (ht.fg f hm).1
  have h2:=r_columnsFault t ht.cols f.cols (ht.fg f hm).2
  have ih:=l_tfgn t ht ks q (j+1) _ Bo hB' rfl (by omega)
  have hN:fgnE t j=orE (ordE f.nm g.nm (j==0)) (listE t f.cols fineM):=by
   unfold fgnE;rw [hf];simp only;rw [hb]
  simp only [tblA,tblC,fgnC] at h2 hg hg2
  generalize ordE f.nm g.nm (j==0)=y at *
  generalize listE t f.cols fineM=z at *
  by_cases hy:y=0
  ·subst hy
   by_cases hz:z=0
   ·subst hz
    rw [evE_more hN]
    unfold Loop at hB
    simp -implicitDefEqProofs only [go_sem,simprocAttr,Tryz.f60,loopOf] at hB
    subst hB
    rw [RL_eq]
    simp -implicitDefEqProofs only [go_sem,simprocAttr,tblC,fgnC,d,h7,hg,hg2,hmx,e0,h1,h2,bne]
    simp only [tbH,tblC] at ih
    rw [ih]
    rfl
   ·have dz:(z==0)=false:=by simpa using hz
    have hN2:fgnE t j=z:=hN
    rw [evE_here (by rw [hN2];exact hz),hN2,if_neg hz]
    unfold Loop at hB
    simp -implicitDefEqProofs only [go_sem,simprocAttr,Tryz.f60,loopOf] at hB
    subst hB
    rw [RL_eq]
    simp -implicitDefEqProofs only [go_sem,simprocAttr,tblC,fgnC,d,h7,hg,hg2,hmx,e0,h1,h2,bne,dz]
  ·have dy:(y==0)=false:=by simpa using hy
   have hN2:fgnE t j=y:=by rw [hN];unfold orE;rw [if_neg hy]
   rw [evE_here (by rw [hN2];exact hy),hN2,if_neg hy]
   unfold Loop at hB
   simp -implicitDefEqProofs only [go_sem,simprocAttr,Tryz.f60,loopOf] at hB
   subst hB
   rw [RL_eq]
   simp -implicitDefEqProofs only [go_sem,simprocAttr,tblC,fgnC,d,h7,hg,hg2,hmx,e0,h1,bne,dy]
theorem l_tidx (t:Tbl) (ht:FitT t) (ks:List It):∀ (q j:Nat) (i:Int) (Bo:Code),Loop Tryz.f60 8 Bo→i=(j:Int)→t.idx.length=j+q →
  RL K (.run 60 0 (.code Bo::.lp Bo (some ([1,138,139,140],[])) 1::.blk 8 1::ks) [(1,.ptr 0 0),(138,.rows (t.idx.map idxC)),(139,I (t.idx.length:Int)),(140,I i)] (tbH t)) =
  if evE (idxE t) j q=0 then R K (.run 60 0 ks [] (tbH t)) else some (I (evE (idxE t) j q),[])
 | 0,j,i,Bo,hB,hi,hq=>by
  subst hi
  have d:¬(j:Int) < (t.idx.length:Int):=by omega
  unfold Loop at hB
  simp -implicitDefEqProofs only [go_sem,simprocAttr,Tryz.f60,loopOf] at hB
  subst hB
  rw [RL_eq]
  simp -implicitDefEqProofs only [go_sem,simprocAttr,d,evE]
 | q+1,j,i,Bo,hB,hi,hq=>by
  subst hi
  have hB':=hB
  have hlen:=ht.idx
  have d:(j:Int) < (t.idx.length:Int):=by omega
  have h7:wrapI .i64 ((j:Int)+1)=((j+1:Nat):Int):=next_id (n:=t.idx.length) (by omega) (by omega)
  obtain ⟨f,hf⟩:=some_at (l:=t.idx) (i:=j) (by omega)
  obtain ⟨g,hgg⟩:=some_at (l:=t.idx) (i:=j - 1) (by omega)
  have hg:=idx_get hf
  have hg2:=idx_get hgg
  have hm:=List.mem_of_getElem? hf
  have hb:befN (t.idx.map (·.nm)) j=g.nm:=befN_at (f:=(·.nm)) hgg
  have hmx:=max_pred (j:=j) (by omega)
  have e0:((j:Int)==0)=(j==0):=by rw [Bool.eq_iff_iff,beq_iff_eq,beq_iff_eq];omega
  have h1:=r_ordered f.nm g.nm (j==0) (ht.ix f hm).1
  have h2:=r_columnsFault t ht.cols f.cols (ht.ix f hm).2
  have ih:=l_tidx t ht ks q (j+1) _ Bo hB' rfl (by omega)
  have hN:idxE t j=orE (ordE f.nm g.nm (j==0)) (if f.cols.length=0 then 3 else if 8 < f.cols.length then 2 else listE t f.cols fineM):=by
   unfold idxE;rw [hf];simp only;rw [hb]
  simp only [tblA,tblC,idxC] at h2 hg hg2
  generalize ordE f.nm g.nm (j==0)=y at *
  generalize listE t f.cols fineM=z at *
  by_cases hy:y=0
  ·subst hy
   by_cases a:f.cols.length=0
   ·have d0:((f.cols.length:Int)==0)=true:=by simp [a]
    have hN2:idxE t j=3:=by rw [hN,if_pos a];rfl
    rw [evE_here (by rw [hN2];decide),hN2,if_neg (by decide)]
    unfold Loop at hB
    simp -implicitDefEqProofs only [go_sem,simprocAttr,Tryz.f60,loopOf] at hB
    subst hB
    rw [RL_eq]
    simp -implicitDefEqProofs only [go_sem,simprocAttr,tblC,idxC,d,h7,hg,hg2,hmx,e0,h1,bne,List.length_map,d0]
   ·have d0:((f.cols.length:Int)==0)=false:=by rw [←Bool.not_eq_true,beq_iff_eq];omega
    rw [if_neg a] at hN
    by_cases b:8 < f.cols.length
    ·have d8:((8:Int) < (f.cols.length:Int))=True:=eq_true (by omega)
     have hN2:idxE t j=2:=by rw [hN,if_pos b];rfl
     rw [evE_here (by rw [hN2];decide),hN2,if_neg (by decide)]
     unfold Loop at hB
     simp -implicitDefEqProofs only [go_sem,simprocAttr,Tryz.f60,loopOf] at hB
     subst hB
     rw [RL_eq]
     simp -implicitDefEqProofs only [go_sem,simprocAttr,tblC,idxC,d,h7,hg,hg2,hmx,e0,h1,bne,List.length_map,d0,d8]
    ·have d8:((8:Int) < (f.cols.length:Int))=False:=eq_false (by omega)
     rw [if_neg b] at hN
     by_cases hz:z=0
     ·subst hz
      rw [evE_more hN]
      unfold Loop at hB
      simp -implicitDefEqProofs only [go_sem,simprocAttr,Tryz.f60,loopOf] at hB
      subst hB
      rw [RL_eq]
      simp -implicitDefEqProofs only [go_sem,simprocAttr,tblC,idxC,d,h7,hg,hg2,hmx,e0,h1,h2,bne,List.length_map,d0,d8]
      simp only [tbH,tblC] at ih
      rw [ih]
      rfl
     ·have dz:(z==0)=false:=by simpa using hz
      have hN2:idxE t j=z:=hN
      rw [evE_here (by rw [hN2];exact hz),hN2,if_neg hz]
      unfold Loop at hB
      simp -implicitDefEqProofs only [go_sem,simprocAttr,Tryz.f60,loopOf] at hB
      subst hB
      rw [RL_eq]
      simp -implicitDefEqProofs only [go_sem,simprocAttr,tblC,idxC,d,h7,hg,hg2,hmx,e0,h1,h2,bne,List.length_map,d0,d8,dz]
  ·have dy:(y==0)=false:=by simpa using hy
   have hN2:idxE t j=y:=by rw [hN];unfold orE;rw [if_neg hy]
   rw [evE_here (by rw [hN2];exact hy),hN2,if_neg hy]
   unfold Loop at hB
   simp -implicitDefEqProofs only [go_sem,simprocAttr,Tryz.f60,loopOf] at hB
   subst hB
   rw [RL_eq]
   simp -implicitDefEqProofs only [go_sem,simprocAttr,tblC,idxC,d,h7,hg,hg2,hmx,e0,h1,bne,dy]
theorem part_all (t:Tbl):evE (partE t) 0 4=if evE (colE t) 0 t.cols.length=0 then (if keyE t=0 then (if evE (fgnE t) 0 t.fgn.length=0 then evE (idxE t) 0 t.idx.length else evE (fgnE t) 0 t.fgn.length) else keyE t) else evE (colE t) 0 t.cols.length:=by
 have e:evE (partE t) 0 4=if columnsE t=0 then (if keyE t=0 then (if evE (fgnE t) 0 t.fgn.length=0 then (if evE (idxE t) 0 t.idx.length=0 then 0 else evE (idxE t) 0 t.idx.length) else evE (fgnE t) 0 t.fgn.length) else keyE t) else columnsE t:=rfl
 rw [e]
 unfold columnsE
 generalize evE (idxE t) 0 t.idx.length=z
 have ez:(if z=0 then 0 else z)=z:=by split<;>simp_all
 rw [ez]
theorem r_tableFault (t:Tbl) (ht:FitT t):R K (.call 60 [tblA t] [])=some (I (if bigT t=true then 2 else evE (partE t) 0 4),[]):=by
 have l0:=fun ks B hB=>l_tcols t ht ks t.cols.length 0 0 B hB rfl (by omega)
 have l3:=fun ks B hB=>l_tkey t ht ks t.key.length 0 0 B hB rfl (by omega)
 have l6:=fun ks B hB=>l_tfgn t ht ks t.fgn.length 0 0 B hB rfl (by omega)
 have l8:=fun ks B hB=>l_tidx t ht ks t.idx.length 0 0 B hB rfl (by omega)
 simp only [tbH,tblC] at l0 l3 l6 l8
 have b1:decide ((60:Int) < (t.cols.length:Int))=decide (60 < t.cols.length):=by congr 1;simp only [eq_iff_iff];omega
 have b2:decide ((8:Int) < (t.key.length:Int))=decide (8 < t.key.length):=by congr 1;simp only [eq_iff_iff];omega
 have b3:decide ((20:Int) < (t.fgn.length:Int))=decide (20 < t.fgn.length):=by congr 1;simp only [eq_iff_iff];omega
 have b4:decide ((20:Int) < (t.idx.length:Int))=decide (20 < t.idx.length):=by congr 1;simp only [eq_iff_iff];omega
 rw [part_all]
 cases hb:bigT t with
 | true =>
  unfold bigT at hb
  generalize decide (60 < t.cols.length)=u1 at *
  generalize decide (8 < t.key.length)=u2 at *
  generalize decide (20 < t.fgn.length)=u3 at *
  generalize decide (20 < t.idx.length)=u4 at *
  rw [call_60]
  simp -implicitDefEqProofs only [go_sem,simprocAttr,Tryz.f60,tblC,List.length_map,b1,b2,b3,b4]
  repeat' ((first | apply split_cond | apply split_yes | apply split_no)<;>intro hc<;>simp -implicitDefEqProofs only [hc,go_sem,simprocAttr,tblC,List.length_map,b1,b2,b3,b4])
  all_goals simp_all
 | false =>
  unfold bigT at hb
  simp only [Bool.or_eq_false_iff] at hb
  obtain ⟨u1,u2,u3,u4⟩:=hb
  rw [if_neg (by decide)]
  rw [call_60]
  simp -implicitDefEqProofs only [go_sem,simprocAttr,Tryz.f60,tblC,List.length_map,b1,b2,b3,b4,u1,u2,u3,u4]
  rw [l0 _ _ ?_]
  ·by_cases z0:evE (colE t) 0 t.cols.length=0
   ·rw [if_pos z0,if_pos z0]
    unfold keyE
    by_cases a:t.key.length=0
    ·have d0:((t.key.length:Int)==0)=true:=by simp [a]
     simp -implicitDefEqProofs only [go_sem,simprocAttr,tblC,List.length_map,d0]
     simp [a]
    ·have d0:((t.key.length:Int)==0)=false:=by rw [←Bool.not_eq_true,beq_iff_eq];omega
     rw [if_neg a]
     unfold listE
     simp -implicitDefEqProofs only [go_sem,simprocAttr,tblC,List.length_map,d0]
     rw [l3 _ _ ?_]
     ·by_cases z1:evE (namesE t t.key keyM) 0 t.key.length=0
      ·rw [if_pos z1,if_pos z1]
       simp -implicitDefEqProofs only [go_sem,simprocAttr,tblC,List.length_map]
       rw [l6 _ _ ?_]
       ·by_cases z2:evE (fgnE t) 0 t.fgn.length=0
        ·rw [if_pos z2,if_pos z2]
         simp -implicitDefEqProofs only [go_sem,simprocAttr,tblC,List.length_map]
         rw [l8 _ _ ?_]
         ·by_cases z3:evE (idxE t) 0 t.idx.length=0
          ·rw [if_pos z3,z3]
           simp -implicitDefEqProofs only [go_sem,simprocAttr]
          ·rw [if_neg z3]
         ·rfl
        ·rw [if_neg z2,if_neg z2]
       ·rfl
      ·rw [if_neg z1,if_neg z1]
     ·rfl
   ·rw [if_neg z0,if_neg z0]
  ·rfl
theorem l_sf0 (x:List Tbl) (hx:FitX x) (ks:List It):∀ (q j:Nat) (i:Int) (Bo:Code),Loop Tryz.f21 0 Bo→i=(j:Int)→x.length=j+q →
  RL K (.run 21 0 (.code Bo::.lp Bo (some ([1,19,20,21],[])) 1::.blk 0 1::ks) [(1,.ptr 0 0),(19,.rows (x.map tblC)),(20,I (x.length:Int)),(21,I i)] (xH x)) =
  if evE (tableE x) j q=0 then R K (.run 21 0 ks [(1,.ptr 0 0)] (xH x)) else some (I (evE (tableE x) j q),[])
 | 0,j,i,Bo,hB,hi,hq=>by
  subst hi
  have d:¬(j:Int) < (x.length:Int):=by omega
  unfold Loop at hB
  simp -implicitDefEqProofs only [go_sem,simprocAttr,Tryz.f21,loopOf] at hB
  subst hB
  rw [RL_eq]
  simp -implicitDefEqProofs only [go_sem,simprocAttr,d,evE]
 | q+1,j,i,Bo,hB,hi,hq=>by
  subst hi
  have hB':=hB
  have hlen:=hx.len
  have d:(j:Int) < (x.length:Int):=by omega
  have h7:wrapI .i64 ((j:Int)+1)=((j+1:Nat):Int):=next_id (n:=x.length) (by omega) (by omega)
  obtain ⟨t,ht⟩:=some_at (l:=x) (i:=j) (by omega)
  obtain ⟨g,hgg⟩:=some_at (l:=x) (i:=j - 1) (by omega)
  have hg:=tbl_get ht
  have hg2:=tbl_get hgg
  have hT:=hx.tbl t (List.mem_of_getElem? ht)
  have hb:befN (x.map (·.nm)) j=g.nm:=befN_at (f:=(·.nm)) hgg
  have hmx:=max_pred (j:=j) (by omega)
  have e0:((j:Int)==0)=(j==0):=by rw [Bool.eq_iff_iff,beq_iff_eq,beq_iff_eq];omega
  have h1:=r_ordered t.nm g.nm (j==0) hT.nm
  have h2:=r_tableFault t hT
  have ih:=l_sf0 x hx ks q (j+1) _ Bo hB' rfl (by omega)
  have hN:tableE x j=orE (ordE t.nm g.nm (j==0)) (if bigT t=true then 2 else evE (partE t) 0 4):=by
   unfold tableE;rw [ht];simp only;rw [hb]
  simp only [tblA,tblC] at h2 hg hg2
  generalize ordE t.nm g.nm (j==0)=y at *
  generalize (if bigT t=true then 2 else evE (partE t) 0 4)=z at *
  by_cases hy:y=0
  ·subst hy
   by_cases hz:z=0
   ·subst hz
    rw [evE_more hN]
    unfold Loop at hB
    simp -implicitDefEqProofs only [go_sem,simprocAttr,Tryz.f21,loopOf] at hB
    subst hB
    rw [RL_eq]
    simp -implicitDefEqProofs only [go_sem,simprocAttr,tblC,d,h7,hg,hg2,hmx,e0,h1,h2,bne]
    simp only [xH] at ih
    rw [ih]
   ·have dz:(z==0)=false:=by simpa using hz
    have hN2:tableE x j=z:=hN
    rw [evE_here (by rw [hN2];exact hz),hN2,if_neg hz]
    unfold Loop at hB
    simp -implicitDefEqProofs only [go_sem,simprocAttr,Tryz.f21,loopOf] at hB
    subst hB
    rw [RL_eq]
    simp -implicitDefEqProofs only [go_sem,simprocAttr,tblC,d,h7,hg,hg2,hmx,e0,h1,h2,bne,dz]
  ·have dy:(y==0)=false:=by simpa using hy
   have hN2:tableE x j=y:=by rw [hN];unfold orE;rw [if_neg hy]
   rw [evE_here (by rw [hN2];exact hy),hN2,if_neg hy]
   unfold Loop at hB
   simp -implicitDefEqProofs only [go_sem,simprocAttr,Tryz.f21,loopOf] at hB
   subst hB
   rw [RL_eq]
   simp -implicitDefEqProofs only [go_sem,simprocAttr,tblC,d,h7,hg,hg2,hmx,e0,h1,bne,dy]
abbrev xtfH (x:List Tbl) (t:Tbl) (f:Fgn):Heap:=[.cells [.rows (x.map tblC)],.cells (tblC t),.cells (fgnC f)]
theorem l_sf6 (x:List Tbl) (hx:FitX x) (t:Tbl) (ht:t∈x) (f:Fgn) (hf:f∈t.fgn) (u:Tbl) (a:Nat) (hu:x[a]? = some u) (hl:f.cols.length=u.key.length) (h1:NamesIn t f.cols) (h2:NamesIn u u.key) (p r:Int) (ks:List It) :
  ∀ (q j:Nat) (i:Int) (Bo:Code),Loop Tryz.f21 6 Bo→i=(j:Int)→f.cols.length=j+q →
  RL K (.run 21 0 (.code Bo::.lp Bo (some ([1,8,10,11,49,50,51,56,57,58,84,85,86],[])) 3::.blk 6 3::ks) [(1,.ptr 0 0),(8,.ptr 1 0),(10,.ptr 2 0),(11,I (a:Int)),(49,.rows (x.map tblC)),(50,I (x.length:Int)),(51,I p),(56,.rows (t.fgn.map fgnC)),(57,I (t.fgn.length:Int)),(58,I r),(84,.rows (SLs u.key)),(85,I (u.key.length:Int)),(86,I i)] (xtfH x t f)) =
  if evE (kdE t u f.cols u.key) j q=0 then R K (.run 21 0 ks [(1,.ptr 0 0),(8,.ptr 1 0),(49,.rows (x.map tblC)),(50,I (x.length:Int)),(51,I p),(56,.rows (t.fgn.map fgnC)),(57,I (t.fgn.length:Int)),(58,I r)] (xtfH x t f)) else some (I (evE (kdE t u f.cols u.key) j q),[])
 | 0,j,i,Bo,hB,hi,hq=>by
  subst hi
  have d:¬(j:Int) < (u.key.length:Int):=by omega
  unfold Loop at hB
  simp -implicitDefEqProofs only [go_sem,simprocAttr,Tryz.f21,loopOf] at hB
  subst hB
  rw [RL_eq]
  simp -implicitDefEqProofs only [go_sem,simprocAttr,d,evE]
 | q+1,j,i,Bo,hB,hi,hq=>by
  subst hi
  have hB':=hB
  have hT:=hx.tbl t ht
  have hU:=hx.tbl u (List.mem_of_getElem? hu)
  have hk:=hU.key
  have d:(j:Int) < (u.key.length:Int):=by omega
  have h7:wrapI .i64 ((j:Int)+1)=((j+1:Nat):Int):=next_id (n:=u.key.length) (by omega) (by omega)
  obtain ⟨m,hm⟩:=some_at (l:=f.cols) (i:=j) (by omega)
  obtain ⟨n,hn⟩:=some_at (l:=u.key) (i:=j) (by omega)
  obtain ⟨c1,c,p1,p2⟩:=ixN_col (h1 m (List.mem_of_getElem? hm))
  obtain ⟨d1,e,q1,q2⟩:=ixN_col (h2 n (List.mem_of_getElem? hn))
  have g1:=str_get hm
  have g2:=str_get hn
  have g3:=r_columnAt t m hT.cols
  have g4:=r_columnAt u n hU.cols
  rw [p1] at g3
  rw [q1] at g4
  have g5:=col_get p2
  have g6:=col_get q2
  have g7:=tbl_get hu
  have e1:colN t m=some c:=by unfold colN;rw [p1,Int.toNat_natCast,p2]
  have e2:colN u n=some e:=by unfold colN;rw [q1,Int.toNat_natCast,q2]
  have hN:kdE t u f.cols u.key j=if c.kd=e.kd then 0 else 8:=by
   unfold kdE
   rw [hm,hn]
   simp only
   rw [e1,e2]
  have ih:=l_sf6 x hx t ht f hf u a hu hl h1 h2 p r ks q (j+1) _ Bo hB' rfl (by omega)
  simp only [tblA,tblC,colC] at g3 g4 g5 g6 g7
  by_cases hd:c.kd=e.kd
  ·have dk:(c.kd==e.kd)=true:=by simpa using hd
   rw [if_pos hd] at hN
   rw [evE_more hN]
   unfold Loop at hB
   simp -implicitDefEqProofs only [go_sem,simprocAttr,Tryz.f21,loopOf] at hB
   subst hB
   rw [RL_eq]
   simp -implicitDefEqProofs only [go_sem,simprocAttr,tblC,fgnC,colC,d,h7,g1,g2,g3,g4,g5,g6,g7,bne,dk]
   simp only [xtfH,tblC,fgnC] at ih
   rw [ih]
   rfl
  ·have dk:(c.kd==e.kd)=false:=by simpa using hd
   rw [if_neg hd] at hN
   rw [evE_here (by rw [hN];decide),hN,if_neg (by decide)]
   unfold Loop at hB
   simp -implicitDefEqProofs only [go_sem,simprocAttr,Tryz.f21,loopOf] at hB
   subst hB
   rw [RL_eq]
   simp -implicitDefEqProofs only [go_sem,simprocAttr,tblC,fgnC,colC,d,h7,g1,g2,g3,g4,g5,g6,g7,bne,dk]
theorem l_sf4 (x:List Tbl) (hx:FitX x) (t:Tbl) (ht:t∈x) (hO:∀ f∈t.fgn,NamesIn t f.cols) (hK:∀ u∈x,NamesIn u u.key) (p:Int) (ks:List It) :
  ∀ (q j:Nat) (i:Int) (Bo:Code),Loop Tryz.f21 4 Bo→i=(j:Int)→t.fgn.length=j+q →
  RL K (.run 21 0 (.code Bo::.lp Bo (some ([1,8,49,50,51,56,57,58],[])) 2::.blk 4 2::ks) [(1,.ptr 0 0),(8,.ptr 1 0),(49,.rows (x.map tblC)),(50,I (x.length:Int)),(51,I p),(56,.rows (t.fgn.map fgnC)),(57,I (t.fgn.length:Int)),(58,I i)] (xtH x t)) =
  if evE (fkE x t) j q=0 then R K (.run 21 0 ks [(1,.ptr 0 0),(49,.rows (x.map tblC)),(50,I (x.length:Int)),(51,I p)] (xtH x t)) else some (I (evE (fkE x t) j q),[])
 | 0,j,i,Bo,hB,hi,hq=>by
  subst hi
  have d:¬(j:Int) < (t.fgn.length:Int):=by omega
  unfold Loop at hB
  simp -implicitDefEqProofs only [go_sem,simprocAttr,Tryz.f21,loopOf] at hB
  subst hB
  rw [RL_eq]
  simp -implicitDefEqProofs only [go_sem,simprocAttr,d,evE]
 | q+1,j,i,Bo,hB,hi,hq=>by
  subst hi
  have hB':=hB
  have hT:=hx.tbl t ht
  have hlen:=hT.fgn
  have d:(j:Int) < (t.fgn.length:Int):=by omega
  have h7:wrapI .i64 ((j:Int)+1)=((j+1:Nat):Int):=next_id (n:=t.fgn.length) (by omega) (by omega)
  obtain ⟨f,hf⟩:=some_at (l:=t.fgn) (i:=j) (by omega)
  have hg:=fgn_get hf
  have hm:=List.mem_of_getElem? hf
  have h1:=r_TableAt x f.tb hx.len
  have ih:=l_sf4 x hx t ht hO hK p ks q (j+1) _ Bo hB' rfl (by omega)
  have hN:fkE x t j=forE x t f:=by unfold fkE;rw [hf]
  simp only [fgnC] at hg
  unfold forE at hN
  by_cases h0:ixN f.tb (x.map (·.nm)) 0 < 0
  ·rw [if_pos h0] at hN
   rw [evE_here (by rw [hN];decide),hN,if_neg (by decide)]
   unfold Loop at hB
   simp -implicitDefEqProofs only [go_sem,simprocAttr,Tryz.f21,loopOf] at hB
   subst hB
   rw [RL_eq]
   simp -implicitDefEqProofs only [go_sem,simprocAttr,fgnC,d,h7,hg,h1,h0]
  ·obtain ⟨a,u,h5,h6⟩:=ixN_tbl h0
   have g7:=tbl_get h6
   have hu:=List.mem_of_getElem? h6
   have h9:((a:Int) < 0)=False:=eq_false (by omega)
   rw [if_neg h0,h5,Int.toNat_natCast,h6] at hN
   simp only at hN
   rw [h5] at h1
   simp only [tblC] at g7
   by_cases hl:f.cols.length=u.key.length
   ·have dl:((f.cols.length:Int)==(u.key.length:Int))=true:=by rw [hl,beq_iff_eq]
    rw [if_pos hl] at hN
    have l6:=fun ks B hB=>l_sf6 x hx t ht f hm u a h6 hl (hO f hm) (hK u hu) p (j:Int) ks f.cols.length 0 0 B hB rfl (by omega)
    simp only [xtfH,tblC,fgnC] at l6
    by_cases z:evE (kdE t u f.cols u.key) 0 f.cols.length=0
    ·rw [z] at hN
     rw [evE_more hN]
     unfold Loop at hB
     simp -implicitDefEqProofs only [go_sem,simprocAttr,Tryz.f21,loopOf] at hB
     subst hB
     rw [RL_eq]
     simp -implicitDefEqProofs only [go_sem,simprocAttr,fgnC,tblC,d,h7,hg,h1,h9,g7,List.length_map,bne,dl]
     rw [l6 _ _ ?_,if_pos z]
     ·simp -implicitDefEqProofs only [go_sem,simprocAttr,fgnC,tblC,d,h7]
      simp only [xtH,tblC] at ih
      rw [ih]
      rfl
     ·rfl
    ·rw [evE_here (by rw [hN];exact z),hN,if_neg z]
     unfold Loop at hB
     simp -implicitDefEqProofs only [go_sem,simprocAttr,Tryz.f21,loopOf] at hB
     subst hB
     rw [RL_eq]
     simp -implicitDefEqProofs only [go_sem,simprocAttr,fgnC,tblC,d,h7,hg,h1,h9,g7,List.length_map,bne,dl]
     rw [l6 _ _ ?_,if_neg z]
     rfl
   ·have dl:((f.cols.length:Int)==(u.key.length:Int))=false:=by rw [←Bool.not_eq_true,beq_iff_eq];omega
    rw [if_neg hl] at hN
    rw [evE_here (by rw [hN];decide),hN,if_neg (by decide)]
    unfold Loop at hB
    simp -implicitDefEqProofs only [go_sem,simprocAttr,Tryz.f21,loopOf] at hB
    subst hB
    rw [RL_eq]
    simp -implicitDefEqProofs only [go_sem,simprocAttr,fgnC,tblC,d,h7,hg,h1,h9,g7,List.length_map,bne,dl]
theorem l_sf2 (x:List Tbl) (hx:FitX x) (hO:∀ t∈x,TabOk t) (ks:List It) :
  ∀ (q j:Nat) (i:Int) (Bo:Code),Loop Tryz.f21 2 Bo→i=(j:Int)→x.length=j+q →
  RL K (.run 21 0 (.code Bo::.lp Bo (some ([1,49,50,51],[])) 1::.blk 2 1::ks) [(1,.ptr 0 0),(49,.rows (x.map tblC)),(50,I (x.length:Int)),(51,I i)] (xH x)) =
  if evE (forsE x) j q=0 then R K (.run 21 0 ks [] (xH x)) else some (I (evE (forsE x) j q),[])
 | 0,j,i,Bo,hB,hi,hq=>by
  subst hi
  have d:¬(j:Int) < (x.length:Int):=by omega
  unfold Loop at hB
  simp -implicitDefEqProofs only [go_sem,simprocAttr,Tryz.f21,loopOf] at hB
  subst hB
  rw [RL_eq]
  simp -implicitDefEqProofs only [go_sem,simprocAttr,d,evE]
 | q+1,j,i,Bo,hB,hi,hq=>by
  subst hi
  have hB':=hB
  have hlen:=hx.len
  have d:(j:Int) < (x.length:Int):=by omega
  have h7:wrapI .i64 ((j:Int)+1)=((j+1:Nat):Int):=next_id (n:=x.length) (by omega) (by omega)
  obtain ⟨t,ht⟩:=some_at (l:=x) (i:=j) (by omega)
  have hg:=tbl_get ht
  have hm:=List.mem_of_getElem? ht
  have ih:=l_sf2 x hx hO ks q (j+1) _ Bo hB' rfl (by omega)
  have hN:forsE x j=evE (fkE x t) 0 t.fgn.length:=by unfold forsE;rw [ht]
  have l4:=fun ks B hB=>l_sf4 x hx t hm (hO t hm).fg (fun u hu=>(hO u hu).key) (j:Int) ks t.fgn.length 0 0 B hB rfl (by omega)
  simp only [xtH,tblC] at l4 hg
  by_cases z:evE (fkE x t) 0 t.fgn.length=0
  ·rw [z] at hN
   rw [evE_more hN]
   unfold Loop at hB
   simp -implicitDefEqProofs only [go_sem,simprocAttr,Tryz.f21,loopOf] at hB
   subst hB
   rw [RL_eq]
   simp -implicitDefEqProofs only [go_sem,simprocAttr,tblC,d,h7,hg,List.length_map]
   rw [l4 _ _ ?_,if_pos z]
   ·simp -implicitDefEqProofs only [go_sem,simprocAttr,tblC,d,h7]
    simp only [xH] at ih
    rw [ih]
   ·rfl
  ·rw [evE_here (by rw [hN];exact z),hN,if_neg z]
   unfold Loop at hB
   simp -implicitDefEqProofs only [go_sem,simprocAttr,Tryz.f21,loopOf] at hB
   subst hB
   rw [RL_eq]
   simp -implicitDefEqProofs only [go_sem,simprocAttr,tblC,d,h7,hg,List.length_map]
   rw [l4 _ _ ?_,if_neg z]
   rfl
theorem chk_all (x:List Tbl):evE (chkP x) 0 2=if evE (tableE x) 0 x.length=0 then evE (forsE x) 0 x.length else evE (tableE x) 0 x.length:=by
 have e:evE (chkP x) 0 2=if evE (tableE x) 0 x.length=0 then (if evE (forsE x) 0 x.length=0 then 0 else evE (forsE x) 0 x.length) else evE (tableE x) 0 x.length:=rfl
 rw [e]
 generalize evE (forsE x) 0 x.length=z
 have ez:(if z=0 then 0 else z)=z:=by split<;>simp_all
 rw [ez]
theorem r_SchemaFault (x:List Tbl) (hx:FitX x):R K (.call 21 [schC x] [])=some (I (chkE x),[]):=by
 have l0:=fun ks B hB=>l_sf0 x hx ks x.length 0 0 B hB rfl (by omega)
 simp only [xH] at l0
 unfold chkE
 by_cases b:60 < x.length
 ·have d:((60:Int) < (x.length:Int))=True:=eq_true (by omega)
  rw [if_pos b]
  rw [call_21]
  simp -implicitDefEqProofs only [go_sem,simprocAttr,Tryz.f21,List.length_map,d]
 ·have d:((60:Int) < (x.length:Int))=False:=eq_false (by omega)
  rw [if_neg b,chk_all]
  rw [call_21]
  simp -implicitDefEqProofs only [go_sem,simprocAttr,Tryz.f21,List.length_map,d]
  rw [l0 _ _ ?_]
  ·by_cases z0:evE (tableE x) 0 x.length=0
   ·have l2:=fun ks B hB=>l_sf2 x hx (tables_ok z0).2 ks x.length 0 0 B hB rfl (by omega)
    simp only [xH] at l2
    rw [if_pos z0,if_pos z0]
    simp -implicitDefEqProofs only [go_sem,simprocAttr,List.length_map]
    rw [l2 _ _ ?_]
    ·by_cases z1:evE (forsE x) 0 x.length=0
     ·rw [if_pos z1,z1]
      simp -implicitDefEqProofs only [go_sem,simprocAttr]
     ·rw [if_neg z1]
    ·rfl
   ·rw [if_neg z0,if_neg z0]
  ·rfl
def bls (n:Nat) (g:Nat→Bool):List (List AV):=(List.range n).map fun j=>[AV.bool (g j)]
def outR (n d:Nat) (loc:Nat→Nat):List (List AV):=(List.range n).map fun a=>[if a < d then AV.own (loc a) n else .nils]
theorem bls_at {n j:Nat} (g:Nat→Bool) (h:j < n):(bls n g)[j]? = some [.bool (g j)]:=by simp [bls,h]
theorem bls_get {n j:Nat} (g:Nat→Bool) (h:j < n):at? (bls n g) (j:Int)=some [.bool (g j)]:=at_get (bls_at g h)
theorem bls_len (n:Nat) (g:Nat→Bool):(bls n g).length=n:=by simp [bls]
theorem bls_set (n j:Nat) (g:Nat→Bool) (b:Bool):(bls n g).set j [.bool b]=bls n fun a=>if a=j then b else g a:=by
 refine List.ext_getElem? fun i=>?_
 by_cases hi:i < n
 ·rw [bls_at _ hi,List.getElem?_set]
  by_cases e:j=i
  ·subst e;simp [hi,bls]
  ·rw [if_neg e,bls_at _ hi,if_neg (Ne.symm e)]
 ·rw [List.getElem?_eq_none (by simp [bls];omega),List.getElem?_eq_none (by simp [bls];omega)]
theorem bls_rep (n:Nat) (b:Bool):List.replicate n [AV.bool b]=bls n fun _=>b:=by
 refine List.ext_getElem? fun i=>?_
 by_cases hi:i < n
 ·rw [bls_at _ hi];simp [hi]
 ·rw [List.getElem?_eq_none (by simp [bls];omega),List.getElem?_eq_none (by simp [bls];omega)]
theorem bls_congr {n:Nat} {f g:Nat→Bool} (h:∀ j,j < n→f j=g j):bls n f=bls n g:=List.map_congr_left fun j hj=>by rw [h j (List.mem_range.1 hj)]
theorem out_at {n d a:Nat} {loc:Nat→Nat} (h:a < n):(outR n d loc)[a]? = some [if a < d then .own (loc a) n else .nils]:=by simp [outR,h]
theorem out_get {n d a:Nat} {loc:Nat→Nat} (h:a < n):at? (outR n d loc) (a:Int)=some [if a < d then .own (loc a) n else .nils]:=at_get (out_at h)
theorem out_len (n d:Nat) (loc:Nat→Nat):(outR n d loc).length=n:=by simp [outR]
theorem out_rep (n:Nat) (loc:Nat→Nat):List.replicate n [AV.nils]=outR n 0 loc:=by
 refine List.ext_getElem? fun i=>?_
 by_cases hi:i < n
 ·rw [out_at hi];simp [hi]
 ·rw [List.getElem?_eq_none (by simp;omega),List.getElem?_eq_none (by simp [outR];omega)]
theorem out_set (n d:Nat) (loc:Nat→Nat):(outR n d loc).set d [.own (loc d) n]=outR n (d+1) loc:=by
 refine List.ext_getElem? fun i=>?_
 by_cases hi:i < n
 ·rw [out_at hi,List.getElem?_set]
  by_cases e:d=i
  ·subst e;simp [hi,outR]
  ·rw [if_neg e,out_at hi]
   by_cases h1:i < d
   ·rw [if_pos h1,if_pos (by omega)]
   ·rw [if_neg h1,if_neg (by omega)]
 ·rw [List.getElem?_eq_none (by simp [outR];omega),List.getElem?_eq_none (by simp [outR];omega)]
structure MatH (x:List Tbl) (h:Heap) (n d:Nat) (loc:Nat→Nat) (r:Mx):Prop where
 src:h[0]? = some (.cells [.rows (x.map tblC)])
 out:h[1]? = some (.rows 1 (outR n d loc) true)
 row:∀ a,a < d→h[loc a]? = some (.rows 1 (bls n (r a)) true)
 inj:∀ a b,a < d→b < d→loc a=loc b→a=b
 gt:∀ a,a < d→1 < loc a
theorem MatH.lt {x:List Tbl} {h:Heap} {n d:Nat} {loc:Nat→Nat} {r:Mx} (m:MatH x h n d loc r) {a:Nat} (ha:a < d):loc a < h.length:=(List.getElem?_eq_some_iff.1 (m.row a ha)).1
theorem MatH.congr {x:List Tbl} {h:Heap} {n d:Nat} {loc:Nat→Nat} {r s:Mx} (m:MatH x h n d loc r) (e:∀ a b,a < d→b < n→r a b=s a b):MatH x h n d loc s :=
 ⟨m.src,m.out,fun a ha=>by rw [m.row a ha,bls_congr fun j hj=>e a j ha hj],m.inj,m.gt⟩
theorem MatH.set {x:List Tbl} {h:Heap} {n d:Nat} {loc:Nat→Nat} {r:Mx} (m:MatH x h n d loc r) {i j:Nat} (hi:i < d) (b:Bool) :
  MatH x (h.set (loc i) (.rows 1 ((bls n (r i)).set j [.bool b]) true)) n d loc fun a c=>if a=i∧c=j then b else r a c:=by
 have g:=m.gt i hi
 refine ⟨?_,?_,?_,m.inj,m.gt⟩
 ·rw [List.getElem?_set_ne (by omega)];exact m.src
 ·rw [List.getElem?_set_ne (by omega)];exact m.out
 ·intro a ha
  by_cases e:a=i
  ·subst e
   rw [List.getElem?_set_self (m.lt hi),bls_set]
   congr 2
   exact bls_congr fun c _=>by simp
  ·rw [List.getElem?_set_ne (fun he=>e (m.inj i a hi ha he).symm),m.row a ha]
   congr 2
   exact bls_congr fun c _=>by simp [e]
theorem MatH.more {x:List Tbl} {h:Heap} {n d:Nat} {loc:Nat→Nat} {r:Mx} (m:MatH x h n d loc r) (g:Heap):MatH x (h++g) n d loc r:=by
 have l0:=(List.getElem?_eq_some_iff.1 m.out).1
 refine ⟨?_,?_,?_,m.inj,m.gt⟩
 ·rw [List.getElem?_append_left (by omega)];exact m.src
 ·rw [List.getElem?_append_left (by omega)];exact m.out
 ·intro a ha
  rw [List.getElem?_append_left (m.lt ha)];exact m.row a ha
theorem mk58 (h:Heap) (n:Nat) (hn:n≤1000000):makeSliceV Tryz.prog 128 h (.int .i64 (n:Int)) (.int .i64 (n:Int))=some (.own h.length n,h++[.rows 1 (List.replicate n [.nils]) true]):=by
 have e:es Tryz.prog 128=some (1,24):=rfl
 have e2:elemZero Tryz.prog 128=some .nils:=rfl
 unfold makeSliceV
 simp only [if_true,e,e2,makeOf,makeRows,Int.toNat_natCast]
 rw [if_pos ⟨by omega,by unfold roomMax;omega⟩]
 rfl
theorem mk60 (h:Heap) (n:Nat) (hn:n≤1000000):makeSliceV Tryz.prog 130 h (.int .i64 (n:Int)) (.int .i64 (n:Int))=some (.own h.length n,h++[.rows 1 (bls n fun _=>false) true]):=by
 have e:es Tryz.prog 130=some (1,1):=rfl
 have e2:elemZero Tryz.prog 130=some (.bool false):=rfl
 unfold makeSliceV
 simp only [if_true,e,e2,makeOf,makeRows,Int.toNat_natCast]
 rw [if_pos ⟨by omega,by unfold roomMax;omega⟩,←bls_rep]
 rfl
theorem locsR_bls (n:Nat) (g:Nat→Bool):locsR (bls n g)=[]:=by
 unfold bls
 induction List.range n with
 | nil=>rfl
 | cons a l ih=>simp [locsR,locsL,locs,ih]
theorem leave3_out {x:List Tbl} {h:Heap} {n:Nat} {loc:Nat→Nat} {r:Mx} (m:MatH x h n n loc r):leave3 false 0 h (outR n n loc)=some ((List.range n).map fun a=>[.rows (bls n (r a))]):=by
 have one:∀ a,a < n→leaveGL (leave2 false 0 h) false 0 h [if a < n then .own (loc a) n else .nils]=some [.rows (bls n (r a))]:=fun a ha=>by
  rw [if_pos ha]
  simp only [leaveGL,leaveG,m.row a ha,bls_len,Nat.zero_le,true_or,and_self,if_true,leave2,orRows,locsR_bls]
 have all:∀ l:List Nat,(∀ a∈l,a < n)→leaveRows (leaveGL (leave2 false 0 h) false 0 h) (l.map fun a=>[if a < n then AV.own (loc a) n else .nils])=some (l.map fun a=>[.rows (bls n (r a))]):=by
  intro l
  induction l with
  | nil=>intro _;rfl
  | cons a l ih =>
   intro hl
   simp only [List.map_cons,leaveRows]
   rw [one a (hl a (by simp)),ih fun b hb=>hl b (by simp [hb])]
   simp [locsL,locs,singles,single]
 have hr:=all (List.range n) fun a ha=>List.mem_range.1 ha
 unfold leave3 orRows
 split
 ·rename_i h0
  cases n with
  | zero=>rfl
  | succ n =>
   exfalso
   rw [outR,List.range_succ_eq_map] at h0
   simp [locsR,locsL,locs] at h0
 ·exact hr
theorem mix_line (k:Nat) (r:Mx) (i n a b:Nat) (hb:b < n):mixM k r i n a b=mixM k r (i+1) 0 a b:=by
 unfold mixM
 by_cases h:a < i∨a=i∧b < n
 ·rw [if_pos h,if_pos (by omega)]
 ·rw [if_neg h,if_neg (by omega)]
theorem mix_zero (k:Nat) (r:Mx):mixM k r 0 0=r:=by
 funext a b
 unfold mixM
 rw [if_neg (by omega)]
theorem mix_all (k:Nat) (r:Mx) (n a b:Nat) (ha:a < n):mixM k r n 0 a b=wStep k r a b:=by
 unfold mixM
 rw [if_pos (by omega)]
theorem under_of {m:Nat}:∀ {l:List Nat},(∀ x∈l,x < m)→under m l=true
 | [],_=>rfl
 | a::l,h=>by
  rw [under_cons]
  exact ⟨h a (by simp),under_of fun x hx=>h x (by simp [hx])⟩
theorem cl_set {m i:Nat} {h:Heap} {b:Blk} (hc:∀ l∈locsH h,l < m) (hb:∀ l∈locsB b,l < m):∀ l∈locsH (h.set i b),l < m:=by
 intro l hl
 obtain ⟨j,k,hj,hk⟩:=locsH_mem hl
 rw [List.getElem?_set] at hj
 split at hj
 ·split at hj
  ·obtain rfl:=Option.some.inj hj
   exact hb l hk
  ·simp at hj
 ·exact hc l (locsH_at hj l hk)
theorem cl_bls {m n:Nat} {g:Nat→Bool}:∀ l∈locsB (.rows 1 (bls n g) true),l < m:=by
 intro l hl
 simp only [locsB,locsR_bls] at hl
 simp at hl
def rowM (r:Mx) (i:Nat) (g:Nat→Bool):Mx:=fun a b=>if a=i then g b else r a b
theorem row_next (x:List Tbl) (r:Mx) (i c:Nat) (l:List Fgn) (f:Fgn) (hf:l[c]? = some f) (a b:Nat) :
  (if a=i∧b=toN x f then true else rowM r i (fun b=>((l.take c).map (toN x)).contains b) a b)=rowM r i (fun b=>((l.take (c+1)).map (toN x)).contains b) a b:=by
 have e:l.take (c+1)=l.take c++[f]:=by rw [List.take_add_one,hf];rfl
 unfold rowM
 rw [e]
 by_cases h:a=i
 ·rw [if_pos h,if_pos h,Bool.eq_iff_iff]
  simp only [List.map_append,List.map_cons,List.map_nil,List.contains_iff_mem,List.mem_append,List.mem_singleton]
  by_cases h2:b=toN x f
  ·rw [if_pos ⟨h,h2⟩];simp [h2]
  ·rw [if_neg (fun e=>h2 e.2)]
   simp [h2]
 ·rw [if_neg h,if_neg h,if_neg (fun e=>h e.1)]
abbrev locA (a:Nat):Nat:=3+2*a
theorem MatH.grow {x:List Tbl} {h:Heap} {n d:Nat} {r:Mx} (m:MatH x h n d locA r) (hm:h.length=2+2*d) (c:Blk) :
  MatH x (h.set 1 (.rows 1 (outR n (d+1) locA) true)++[c]++[.rows 1 (bls n fun _=>false) true]) n (d+1) locA (rowM r d fun _=>false):=by
 refine ⟨?_,?_,?_,fun a b _ _ e=>by simp only [locA] at e;omega,fun a _=>by simp only [locA];omega⟩
 ·rw [List.append_assoc,List.getElem?_append_left (by rw [List.length_set];omega),List.getElem?_set_ne (by omega)];exact m.src
 ·rw [List.append_assoc,List.getElem?_append_left (by rw [List.length_set];omega),List.getElem?_set_self (by omega)]
 ·intro a ha
  by_cases e:a=d
  ·subst e
   rw [List.getElem?_append_right (by simp only [List.length_append,List.length_set,List.length_singleton,locA];omega)]
   have:locA a - (h.set 1 (.rows 1 (outR n (a+1) locA) true)++[c]).length=0:=by simp only [List.length_append,List.length_set,List.length_singleton,locA];omega
   rw [this]
   unfold rowM
   simp
  ·rw [List.append_assoc,List.getElem?_append_left (by rw [List.length_set];simp only [locA];omega),List.getElem?_set_ne (by simp only [locA];omega),m.row a (by omega)]
   have e2:rowM r d (fun _=>false) a=r a:=by
    funext j
    unfold rowM
    rw [if_neg e]
   rw [e2]
theorem no_cut {x:List Tbl} {h:Heap} {n d:Nat} {loc:Nat→Nat} {r:Mx} (m:MatH x h n d loc r) (hd:0 < d) (hn:d≤n):under 2 (locsH (List.take 2 h))=false:=by
 cases hu:under 2 (locsH (List.take 2 h)) with
 | false=>rfl
 | true =>
  exfalso
  have h1:(List.take 2 h)[1]? = some (.rows 1 (outR n d loc) true):=by rw [List.getElem?_take_of_lt (by omega)];exact m.out
  have h2:loc 0∈locsB (.rows 1 (outR n d loc) true):=by
   simp only [locsB]
   obtain ⟨n,rfl⟩:∃ k,n=k+1:=⟨n - 1,by omega⟩
   rw [outR,List.range_succ_eq_map]
   simp [locsR,locsL,locs,hd]
  have:=under_mem hu _ (locsH_at h1 _ h2)
  have:=m.gt 0 hd
  omega
theorem cl_app {m:Nat} {h g:Heap} (hc:∀ l∈locsH h,l < m) (hg:∀ l∈locsH g,l < m):∀ l∈locsH (h++g),l < m:=by
 intro l hl
 obtain ⟨j,k,hj,hk⟩:=locsH_mem hl
 rw [List.getElem?_append] at hj
 split at hj
 ·exact hc l (locsH_at hj l hk)
 ·exact hg l (locsH_at hj l hk)
theorem cl_out {m n d:Nat} {loc:Nat→Nat} (h:∀ a,a < d→loc a < m):∀ l∈locsB (.rows 1 (outR n d loc) true),l < m:=by
 simp only [locsB,outR]
 induction List.range n with
 | nil=>intro l hl;simp [locsR] at hl
 | cons a r ih =>
  intro l hl
  simp only [List.map_cons,locsR,List.mem_append] at hl
  rcases hl with hl | hl
  ·by_cases e:a < d
   ·rw [if_pos e] at hl
    simp [locsL,locs] at hl
    rw [hl];exact h a e
   ·rw [if_neg e] at hl
    simp [locsL,locs] at hl
  ·exact ih l hl
theorem locs_pure:∀ t:Tbl,locsL (tblC t)=[]:=fun _=>rfl
def reachR (x:List Tbl):List (List AV):=(List.range x.length).map fun a=>[.rows (bls x.length (reachM x a))]
abbrev reachA (x:List Tbl):AV:=.rows (reachR x)
theorem reach_get {x:List Tbl} {i:Nat} (h:i < x.length):at? (reachR x) (i:Int)=some [.rows (bls x.length (reachM x i))]:=at_get (by simp [reachR,h])
theorem reach_bit {x:List Tbl} {i j:Nat} (h:j < x.length):at? (bls x.length (reachM x i)) (j:Int)=some [.bool (reachM x i j)]:=bls_get _ h
theorem l_rr8 (x:List Tbl) (n i k m:Nat) (hn:n≤1000000) (hi:i < n) (hk:k < n) (loc:Nat→Nat) (r:Mx):∀ (q j:Nat) (h:Heap),n=j+q→h.length=m→MatH x h n n loc (mixM k r i j) →
  ∃ h',MatH x h' n n loc (mixM k r i n)∧h'.length=m∧∀ (ks:List It) (Bo:Code) (jj:Int),Loop Tryz.f63 8 Bo→jj=(j:Int) →
  RL K (.run 63 0 (.code Bo::.lp Bo (some ([3,4,9,10,48,49,52,53,56,57],[])) m::.blk 8 m::ks) [(3,I (n:Int)),(4,.own 1 n),(9,I (k:Int)),(10,I (i:Int)),(48,I (n:Int)),(49,I (k:Int)),(52,I (n:Int)),(53,I (i:Int)),(56,I (n:Int)),(57,I jj)] h) =
  R K (.run 63 0 ks [(3,I (n:Int)),(4,.own 1 n),(9,I (k:Int)),(48,I (n:Int)),(49,I (k:Int)),(52,I (n:Int)),(53,I (i:Int))] h')
 | 0,j,h,hq,hm,mh=>by
  have d:¬(j:Int) < (n:Int):=by omega
  have tk:List.take m h=h:=List.take_of_length_le (by omega)
  have ej:j=n:=by omega
  refine ⟨h,ej▸mh,hm,fun ks Bo jj hB hj=>?_⟩
  subst hj
  unfold Loop at hB
  simp -implicitDefEqProofs only [go_sem,simprocAttr,Tryz.f63,loopOf] at hB
  subst hB
  rw [RL_eq]
  simp -implicitDefEqProofs only [go_sem,simprocAttr,d,tk]
 | q+1,j,h,hq,hm,mh=>by
  have hjn:j < n:=by omega
  have d:(j:Int) < (n:Int):=by omega
  have h7:wrapI .i64 ((j:Int)+1)=((j+1:Nat):Int):=next_id (n:=n) (by omega) (by omega)
  have o0:=mh.out
  have oi:=out_at (n:=n) (d:=n) (loc:=loc) hi
  have ok:=out_at (n:=n) (d:=n) (loc:=loc) hk
  have oi2:=out_get (n:=n) (d:=n) (loc:=loc) hi
  have ok2:=out_get (n:=n) (d:=n) (loc:=loc) hk
  rw [if_pos hi] at oi oi2
  rw [if_pos hk] at ok ok2
  have ri:=mh.row i hi
  have rk:=mh.row k hk
  have bij:=bls_at (mixM k r i j i) hjn
  have bij2:=bls_get (mixM k r i j i) hjn
  have bik:=bls_at (mixM k r i j i) hk
  have bik2:=bls_get (mixM k r i j i) hk
  have bkj:=bls_at (mixM k r i j k) hjn
  have bkj2:=bls_get (mixM k r i j k) hjn
  rw [mix_own] at bij bij2
  rw [mix_col] at bik bik2
  rw [mix_row] at bkj bkj2
  obtain ⟨h',p1,p2,ih⟩:=l_rr8 x n i k m hn hi hk loc r q (j+1) (h.set (loc i) (.rows 1 ((bls n (mixM k r i j i)).set j [.bool (wStep k r i j)]) true)) (by omega) (by rw [List.length_set];exact hm) ((mh.set hi _).congr fun a b _ _=>(mix_next k r i j a b).symm)
  refine ⟨h',p1,p2,fun ks Bo jj hB hj=>?_⟩
  subst hj
  have ih:=ih ks Bo _ hB rfl
  have tk:∀ b,List.take m (h.set (loc i) b)=h.set (loc i) b:=fun b=>List.take_of_length_le (by rw [List.length_set];omega)
  unfold wStep at ih
  generalize r i j=b1 at *
  generalize r i k=b2 at *
  generalize r k j=b3 at *
  have lRi:=bls_len n (mixM k r i j i)
  generalize bls n (mixM k r i j i)=Ri at *
  have sp:∀ b c:Bool,splice [AV.bool b] 0 [.bool c]=[.bool c]:=fun _ _=>rfl
  cases b1 with
  | true =>
   unfold Loop at hB
   simp -implicitDefEqProofs only [go_sem,simprocAttr,Tryz.f63,loopOf] at hB
   subst hB
   rw [RL_eq]
   simp -implicitDefEqProofs only [go_sem,simprocAttr,d,h7,o0,oi,ok,oi2,ok2,ri,rk,bij,bij2,bik,bik2,bkj,bkj2,lRi,sp,tk,Int.toNat_natCast,bls_len,out_len]
   exact ih
  | false =>
   cases b2 with
   | true =>
    unfold Loop at hB
    simp -implicitDefEqProofs only [go_sem,simprocAttr,Tryz.f63,loopOf] at hB
    subst hB
    rw [RL_eq]
    simp -implicitDefEqProofs only [go_sem,simprocAttr,d,h7,o0,oi,ok,oi2,ok2,ri,rk,bij,bij2,bik,bik2,bkj,bkj2,lRi,sp,tk,Int.toNat_natCast,bls_len,out_len]
    cases b3<;>exact ih
   | false =>
    unfold Loop at hB
    simp -implicitDefEqProofs only [go_sem,simprocAttr,Tryz.f63,loopOf] at hB
    subst hB
    rw [RL_eq]
    simp -implicitDefEqProofs only [go_sem,simprocAttr,d,h7,o0,oi,ok,oi2,ok2,ri,rk,bij,bij2,bik,bik2,bkj,bkj2,lRi,sp,tk,Int.toNat_natCast,bls_len,out_len]
    exact ih
theorem l_rr6 (x:List Tbl) (n k m:Nat) (hn:n≤1000000) (hk:k < n) (loc:Nat→Nat) (r:Mx):∀ (q i:Nat) (h:Heap),n=i+q→h.length=m→MatH x h n n loc (mixM k r i 0) →
  ∃ h',MatH x h' n n loc (mixM k r n 0)∧h'.length=m∧∀ (ks:List It) (Bo:Code) (ii:Int),Loop Tryz.f63 6 Bo→ii=(i:Int) →
  RL K (.run 63 0 (.code Bo::.lp Bo (some ([3,4,9,48,49,52,53],[])) m::.blk 6 m::ks) [(3,I (n:Int)),(4,.own 1 n),(9,I (k:Int)),(48,I (n:Int)),(49,I (k:Int)),(52,I (n:Int)),(53,I ii)] h) =
  R K (.run 63 0 ks [(3,I (n:Int)),(4,.own 1 n),(48,I (n:Int)),(49,I (k:Int))] h')
 | 0,i,h,hq,hm,mh=>by
  have d:¬(i:Int) < (n:Int):=by omega
  have tk:List.take m h=h:=List.take_of_length_le (by omega)
  have ei:i=n:=by omega
  refine ⟨h,ei▸mh,hm,fun ks Bo ii hB hi=>?_⟩
  subst hi
  unfold Loop at hB
  simp -implicitDefEqProofs only [go_sem,simprocAttr,Tryz.f63,loopOf] at hB
  subst hB
  rw [RL_eq]
  simp -implicitDefEqProofs only [go_sem,simprocAttr,d,tk]
 | q+1,i,h,hq,hm,mh=>by
  have hin:i < n:=by omega
  have d:(i:Int) < (n:Int):=by omega
  have h7:wrapI .i64 ((i:Int)+1)=((i+1:Nat):Int):=next_id (n:=n) (by omega) (by omega)
  obtain ⟨h1,p1,p2,e1⟩:=l_rr8 x n i k m hn hin hk loc r n 0 h (by omega) hm mh
  obtain ⟨h',p3,p4,ih⟩:=l_rr6 x n k m hn hk loc r q (i+1) h1 (by omega) p2 (p1.congr fun a b _ hb=>mix_line k r i n a b hb)
  refine ⟨h',p3,p4,fun ks Bo ii hB hi=>?_⟩
  subst hi
  have ih:=ih ks Bo _ hB rfl
  have tk:List.take m h1=h1:=List.take_of_length_le (by omega)
  have tk0:List.take m h=h:=List.take_of_length_le (by omega)
  unfold Loop at hB
  simp -implicitDefEqProofs only [go_sem,simprocAttr,Tryz.f63,loopOf] at hB
  subst hB
  rw [RL_eq]
  simp -implicitDefEqProofs only [go_sem,simprocAttr,d,h7,hm,tk0]
  rw [e1 _ _ 0 ?_ rfl]
  ·simp -implicitDefEqProofs only [go_sem,simprocAttr,d,h7,tk]
   exact ih
  ·rfl
theorem l_rr4 (x:List Tbl) (n m:Nat) (hn:n≤1000000) (loc:Nat→Nat) (r:Mx):∀ (q k:Nat) (h:Heap),n=k+q→h.length=m→MatH x h n n loc (wIter r k) →
  ∃ h',MatH x h' n n loc (wIter r n)∧h'.length=m∧∀ (ks:List It) (Bo:Code) (kk:Int),Loop Tryz.f63 4 Bo→kk=(k:Int) →
  RL K (.run 63 0 (.code Bo::.lp Bo (some ([3,4,48,49],[])) m::.blk 4 m::ks) [(3,I (n:Int)),(4,.own 1 n),(48,I (n:Int)),(49,I kk)] h) =
  R K (.run 63 0 ks [(4,.own 1 n)] h')
 | 0,k,h,hq,hm,mh=>by
  have d:¬(k:Int) < (n:Int):=by omega
  have tk:List.take m h=h:=List.take_of_length_le (by omega)
  have ek:k=n:=by omega
  refine ⟨h,ek▸mh,hm,fun ks Bo kk hB hk=>?_⟩
  subst hk
  unfold Loop at hB
  simp -implicitDefEqProofs only [go_sem,simprocAttr,Tryz.f63,loopOf] at hB
  subst hB
  rw [RL_eq]
  simp -implicitDefEqProofs only [go_sem,simprocAttr,d,tk]
 | q+1,k,h,hq,hm,mh=>by
  have hkn:k < n:=by omega
  have d:(k:Int) < (n:Int):=by omega
  have h7:wrapI .i64 ((k:Int)+1)=((k+1:Nat):Int):=next_id (n:=n) (by omega) (by omega)
  obtain ⟨h1,p1,p2,e1⟩:=l_rr6 x n k m hn hkn loc (wIter r k) n 0 h (by omega) hm (by rw [mix_zero];exact mh)
  obtain ⟨h',p3,p4,ih⟩:=l_rr4 x n m hn loc r q (k+1) h1 (by omega) p2 (p1.congr fun a b ha _=>mix_all k _ n a b ha)
  refine ⟨h',p3,p4,fun ks Bo kk hB hk=>?_⟩
  subst hk
  have ih:=ih ks Bo _ hB rfl
  have tk:List.take m h1=h1:=List.take_of_length_le (by omega)
  have tk0:List.take m h=h:=List.take_of_length_le (by omega)
  unfold Loop at hB
  simp -implicitDefEqProofs only [go_sem,simprocAttr,Tryz.f63,loopOf] at hB
  subst hB
  rw [RL_eq]
  simp -implicitDefEqProofs only [go_sem,simprocAttr,d,h7,hm,tk0]
  rw [e1 _ _ 0 ?_ rfl]
  ·simp -implicitDefEqProofs only [go_sem,simprocAttr,d,h7,tk]
   exact ih
  ·rfl
theorem l_rr2 (x:List Tbl) (hx:FitX x) (hR:RightX x) (i m:Nat) (hi:i < x.length) (loc:Nat→Nat) (t:Tbl) (ht:t∈x) (r:Mx):∀ (q c:Nat) (h:Heap),t.fgn.length=c+q→h.length=m→(∀ l∈locsH h,l < m)→MatH x h x.length (i+1) loc (rowM r i fun b=>((t.fgn.take c).map (toN x)).contains b) →
  ∃ h',MatH x h' x.length (i+1) loc (rowM r i fun b=>(t.fgn.map (toN x)).contains b)∧h'.length=m∧(∀ l∈locsH h',l < m)∧∀ (ks:List It) (Bo:Code) (cc:Int),Loop Tryz.f63 2 Bo→cc=(c:Int) →
  RL K (.run 63 0 (.code Bo::.lp Bo (some ([1,3,4,5,18,19,20,31,32,33],[])) m::.blk 2 m::ks) [(1,.ptr 0 0),(3,I (x.length:Int)),(4,.own 1 x.length),(5,I (i:Int)),(18,.rows (x.map tblC)),(19,I (x.length:Int)),(20,I (i:Int)),(31,.rows (t.fgn.map fgnC)),(32,I (t.fgn.length:Int)),(33,I cc)] h) =
  R K (.run 63 0 ks [(1,.ptr 0 0),(3,I (x.length:Int)),(4,.own 1 x.length),(18,.rows (x.map tblC)),(19,I (x.length:Int)),(20,I (i:Int))] h')
 | 0,c,h,hq,hm,hc,mh=>by
  have d:¬(c:Int) < (t.fgn.length:Int):=by omega
  have tk:List.take m h=h:=List.take_of_length_le (by omega)
  refine ⟨h,by rw [List.take_of_length_le (by omega)] at mh;exact mh,hm,hc,fun ks Bo cc hB hcc=>?_⟩
  subst hcc
  unfold Loop at hB
  simp -implicitDefEqProofs only [go_sem,simprocAttr,Tryz.f63,loopOf] at hB
  subst hB
  rw [RL_eq]
  simp -implicitDefEqProofs only [go_sem,simprocAttr,d,tk]
 | q+1,c,h,hq,hm,hc,mh=>by
  have hT:=hx.tbl t ht
  have hlen:=hT.fgn
  have d:(c:Int) < (t.fgn.length:Int):=by omega
  have h7:wrapI .i64 ((c:Int)+1)=((c+1:Nat):Int):=next_id (n:=t.fgn.length) (by omega) (by omega)
  obtain ⟨f,hf⟩:=some_at (l:=t.fgn) (i:=c) (by omega)
  have hg:=fgn_get hf
  obtain ⟨n1,n2,n3⟩:=toN_is hR ht (List.mem_of_getElem? hf)
  have g1:=r_TableAt x f.tb hx.len
  rw [n3] at g1
  have ml:=mh.lt (show i < i+1 by omega)
  have l1:=(List.getElem?_eq_some_iff.1 mh.out).1
  have gt:=mh.gt i (by omega)
  have oi:=out_at (n:=x.length) (d:=i+1) (loc:=loc) hi
  have oi2:=out_get (n:=x.length) (d:=i+1) (loc:=loc) hi
  rw [if_pos (by omega)] at oi oi2
  have hrow:=mh.row i (by omega)
  obtain ⟨h',p1,p2,p3,ih⟩:=l_rr2 x hx hR i m hi loc t ht r q (c+1) (h.set (loc i) (.rows 1 ((bls x.length (rowM r i (fun b=>((t.fgn.take c).map (toN x)).contains b) i)).set (toN x f) [.bool true]) true)) (by omega) (by rw [List.length_set];exact hm) (cl_set hc (by rw [bls_set];exact cl_bls)) ((mh.set (by omega) true).congr fun a b _ _=>row_next x r i c t.fgn f hf a b)
  refine ⟨h',p1,p2,p3,fun ks Bo cc hB hcc=>?_⟩
  subst hcc
  have ih:=ih ks Bo _ hB rfl
  have bf:=bls_at (n:=x.length) (rowM r i (fun b=>((t.fgn.take c).map (toN x)).contains b) i) n1
  have bf2:=bls_get (n:=x.length) (rowM r i (fun b=>((t.fgn.take c).map (toN x)).contains b) i) n1
  have cl:under m (locsH (h.set (loc i) (.rows 1 ((bls x.length (rowM r i (fun b=>((t.fgn.take c).map (toN x)).contains b) i)).set (toN x f) [.bool true]) true)))=true:=under_of (cl_set hc (by rw [bls_set];exact cl_bls))
  have lRi:=bls_len x.length (rowM r i (fun b=>((t.fgn.take c).map (toN x)).contains b) i)
  generalize rowM r i (fun b=>((t.fgn.take c).map (toN x)).contains b) i (toN x f)=b0 at *
  generalize bls x.length (rowM r i (fun b=>((t.fgn.take c).map (toN x)).contains b) i)=Ri at *
  have a0:∀ c,(h++[c])[0]? = some (.cells [.rows (x.map tblC)]):=fun c=>by rw [List.getElem?_append_left (by omega)];exact mh.src
  have a1:∀ c,(h++[c])[1]? = some (.rows 1 (outR x.length (i+1) loc) true):=fun c=>by rw [List.getElem?_append_left (by omega)];exact mh.out
  have al:∀ c,(h++[c])[loc i]? = some (.rows 1 Ri true):=fun c=>by rw [List.getElem?_append_left (by omega)];exact hrow
  have am:∀ c,(h++[c])[m]? = some c:=fun c=>by rw [←hm];simp
  have sm:∀ c e,(h++[c]).set m e=h++[e]:=fun c e=>by rw [←hm];simp
  have sl:∀ c e,(h++[c]).set (loc i) e=h.set (loc i) e++[c]:=fun c e=>List.set_append_left _ _ (by omega)
  have tk:∀ c e,List.take m (h.set (loc i) e++[c])=h.set (loc i) e:=fun c e=>by rw [List.take_append_of_le_length (by rw [List.length_set];omega),List.take_of_length_le (by rw [List.length_set];omega)]
  have sp:splice [AV.bool b0] 0 [.bool true]=[.bool true]:=rfl
  have u1:(0 < m)=True:=eq_true (by omega)
  have u2:(1 < m)=True:=eq_true (by omega)
  simp only [fgnC] at hg
  unfold Loop at hB
  simp -implicitDefEqProofs only [go_sem,simprocAttr,Tryz.f63,loopOf] at hB
  subst hB
  rw [RL_eq]
  simp -implicitDefEqProofs only [go_sem,simprocAttr,fgnC,d,h7,hm,hg,g1,a0,a1,al,am,sm,sl,tk,sp,oi,oi2,bf,bf2,lRi,cl,u1,u2,Int.toNat_natCast,out_len]
  exact ih
theorem l_rr0 (x:List Tbl) (hx:FitX x) (hR:RightX x):∀ (q d:Nat) (h:Heap),x.length=d+q→h.length=2+2*d→(∀ l∈locsH h,l < h.length)→MatH x h x.length d locA (baseM x) →
  ∃ h',MatH x h' x.length x.length locA (baseM x)∧h'.length=2+2*x.length∧∀ (ks:List It) (Bo:Code) (dd:Int),Loop Tryz.f63 0 Bo→dd=(d:Int) →
  RL K (.run 63 0 (.code Bo::.lp Bo (some ([1,3,4,18,19,20],[])) 2::.blk 0 2::ks) [(1,.ptr 0 0),(3,I (x.length:Int)),(4,.own 1 x.length),(18,.rows (x.map tblC)),(19,I (x.length:Int)),(20,I dd)] h) =
  R K (.run 63 0 ks [(3,I (x.length:Int)),(4,.own 1 x.length)] h')
 | 0,d,h,hq,hm,hc,mh=>by
  have dd0:¬(d:Int) < (x.length:Int):=by omega
  have ed:d=x.length:=by omega
  refine ⟨h,ed▸mh,by omega,fun ks Bo dd hB hd=>?_⟩
  subst hd
  by_cases e0:d=0
  ·have tk:List.take 2 h=h:=List.take_of_length_le (by omega)
   unfold Loop at hB
   simp -implicitDefEqProofs only [go_sem,simprocAttr,Tryz.f63,loopOf] at hB
   subst hB
   rw [RL_eq]
   simp -implicitDefEqProofs only [go_sem,simprocAttr,dd0,tk]
  ·have nc:=no_cut mh (by omega) (by omega)
   unfold Loop at hB
   simp -implicitDefEqProofs only [go_sem,simprocAttr,Tryz.f63,loopOf] at hB
   subst hB
   rw [RL_eq]
   simp -implicitDefEqProofs only [go_sem,simprocAttr,dd0,nc]
 | q+1,d,h,hq,hm,hc,mh=>by
  have hdn:d < x.length:=by omega
  have hlen:=hx.len
  have dd1:(d:Int) < (x.length:Int):=by omega
  have h7:wrapI .i64 ((d:Int)+1)=((d+1:Nat):Int):=next_id (n:=x.length) (by omega) (by omega)
  obtain ⟨t,ht⟩:=some_at (l:=x) (i:=d) hdn
  have hg:=tbl_get ht
  have hmem:=List.mem_of_getElem? ht
  have g0:=mh.grow hm (.cells (tblC t))
  have hc2:∀ l∈locsH (h.set 1 (.rows 1 (outR x.length (d+1) locA) true)++[.cells (tblC t)]++[.rows 1 (bls x.length fun _=>false) true]),l < 2+2*d+2:=by
   refine cl_app (cl_app (cl_set (fun l hl=>by have:=hc l hl;omega) (cl_out fun a ha=>by simp only [locA];omega)) ?_) ?_
   ·intro l hl
    simp [locsH,locsB,locs_pure] at hl
   ·intro l hl
    simp [locsH,locsB,locsR_bls] at hl
  obtain ⟨h1,p1,p2,p3,e1⟩:=l_rr2 x hx hR d (2+2*d+2) hdn locA t hmem (baseM x) t.fgn.length 0 _ (by omega) (by simp only [List.length_append,List.length_set,List.length_singleton];omega) hc2 (g0.congr fun a b _ _=>rfl)
  obtain ⟨h',q1,q2,ih⟩:=l_rr0 x hx hR q (d+1) h1 (by omega) (by omega) (fun l hl=>by have:=p3 l hl;omega) (p1.congr fun a b _ _=>by
   unfold rowM
   by_cases e:a=d
   ·rw [if_pos e,e];unfold baseM;rw [toL_at ht]
   ·rw [if_neg e])
  refine ⟨h',q1,q2,fun ks Bo dd hB hd=>?_⟩
  subst hd
  have ih:=ih ks Bo _ hB rfl
  have nc:=no_cut p1 (by omega) (by omega)
  have mk:=fun h=>mk60 h x.length hlen
  have la:∀ c,(h++[c]).length=2+2*d+1:=fun c=>by simp [hm]
  have l1:=(List.getElem?_eq_some_iff.1 mh.out).1
  have b1:∀ c e,(h++[c]++[e])[1]? = some (.rows 1 (outR x.length d locA) true):=fun c e=>by rw [List.append_assoc,List.getElem?_append_left (by omega)];exact mh.out
  have oi:=out_at (n:=x.length) (d:=d) (loc:=locA) hdn
  have oi2:=out_get (n:=x.length) (d:=d) (loc:=locA) hdn
  rw [if_neg (by omega)] at oi oi2
  have os:(outR x.length d locA).set d [.own (2+2*d+1) x.length]=outR x.length (d+1) locA:=by
   rw [show 2+2*d+1=locA d by simp only [locA];omega]
   exact out_set x.length d locA
  have bn:∀ c e,(h++[c]++[e])[2+2*d+1]? = some e:=fun c e=>by
   rw [List.getElem?_append_right (by simp [hm])];simp [hm]
  have am:∀ c,(h++[c])[2+2*d]? = some c:=fun c=>by rw [←hm];simp
  have sm:∀ c e,(h++[c]).set (2+2*d) e=h++[e]:=fun c e=>by rw [←hm];simp
  have sb:∀ c e g,(h++[c]++[e]).set 1 g=h.set 1 g++[c]++[e]:=fun c e g=>by rw [List.append_assoc,List.set_append_left _ _ (by omega),List.append_assoc]
  have bm:∀ c e g,(h.set 1 g++[c]++[e])[2+2*d]? = some c:=fun c e g=>by
   rw [List.append_assoc,List.getElem?_append_right (by rw [List.length_set];omega),List.length_set,hm];simp
  have lb:∀ c e g,(h.set 1 g++[c]++[e]).length=2+2*d+2:=fun c e g=>by simp [hm]
  have u1:(0 < 2+2*d+2)=True:=eq_true (by omega)
  simp only [tblC] at hg e1
  unfold Loop at hB
  simp -implicitDefEqProofs only [go_sem,simprocAttr,Tryz.f63,loopOf] at hB
  subst hB
  rw [RL_eq]
  simp -implicitDefEqProofs only [go_sem,simprocAttr,tblC,dd1,h7,hm,hg,mk,la,b1,oi,oi2,os,am,sm,sb,bm,bn,lb,nc,Int.toNat_natCast,out_len,List.length_map,List.drop_succ_cons,List.drop_nil,List.length_cons,List.length_nil,List.append_nil]
  rw [e1 _ _ 0 ?_ rfl]
  ·simp -implicitDefEqProofs only [go_sem,simprocAttr,h7,nc]
   exact ih
  ·rfl
theorem r_reach (x:List Tbl) (hx:FitX x) (hR:RightX x):R K (.call 63 [schC x] [])=some (reachA x,[]):=by
 have hlen:=hx.len
 have mk:=fun h=>mk58 h x.length hlen
 have m0:MatH x [.cells [.rows (x.map tblC)],.rows 1 (outR x.length 0 locA) true] x.length 0 locA (baseM x):=⟨rfl,rfl,fun a ha=>absurd ha (by omega),fun a b ha=>absurd ha (by omega),fun a ha=>absurd ha (by omega)⟩
 have c0:∀ l∈locsH [Blk.cells [.rows (x.map tblC)],.rows 1 (outR x.length 0 locA) true],l < 2:=by
  have:=cl_app (m:=2) (h:=[Blk.cells [.rows (x.map tblC)]]) (g:=[.rows 1 (outR x.length 0 locA) true]) (fun l hl=>by simp [locsH,locsB,locsL,locs] at hl) (fun l hl=>by
   simp only [locsH,List.append_nil] at hl
   exact cl_out (fun a ha=>absurd ha (by omega)) l hl)
  exact this
 obtain ⟨h1,p1,p2,e1⟩:=l_rr0 x hx hR x.length 0 _ (by omega) rfl c0 m0
 obtain ⟨h2,q1,q2,e2⟩:=l_rr4 x x.length (2+2*x.length) hlen locA (baseM x) x.length 0 h1 (by omega) p2 p1
 have lv:=leave3_out q1
 rw [leave3,orRows] at lv
 simp only [leave2,leave1] at lv
 have o1:=q1.out
 rw [←out_rep] at e1
 rw [call_63]
 simp -implicitDefEqProofs only [go_sem,simprocAttr,Tryz.f63,List.length_map,mk]
 rw [e1 _ _ 0 ?_ rfl]
 ·simp -implicitDefEqProofs only [go_sem,simprocAttr,p2]
  rw [e2 _ _ 0 ?_ rfl]
  ·simp -implicitDefEqProofs only [go_sem,simprocAttr,o1,out_len,lv]
   rfl
  ·rfl
 ·rfl
def waitP (x:List Tbl) (i:Nat) (o:List Nat) (f:Fgn):Bool:=!(toN x f==i)&&!o.contains (toN x f)&&!(reachM x i (toN x f)&&reachM x (toN x f) i)
theorem any_waits {x:List Tbl} {i:Nat} {t:Tbl} (h:x[i]? = some t) (o:List Nat):t.fgn.any (waitP x i o)=waitB (reachM x) (toL x i) (fun j=>o.contains j) i:=by
 unfold waitB
 rw [toL_at h,List.any_map]
 rfl
theorem SLs_add {x:List Tbl} {i:Nat} {t:Tbl} (ht:x[i]? = some t) (o:List Nat):SLs (o.map (nmX x))++[[AV.str t.nm]]=SLs ((o++[i]).map (nmX x)):=by
 rw [SLs_app,List.map_append,List.map_singleton,nmX_at ht]
def ordS (x:List Tbl):AV:=.rows (SLs ((ordN x x.length []).map (nmX x)))
def cirS (x:List Tbl):AV:=.rows (SLs ((circN x 0 x.length).map (nmX x)))
abbrev ooH (x:List Tbl) (v:AV) (ns:List (List UInt8)):Heap:=[.cells [.rows (x.map tblC)],.cells [v],.cells [reachA x],.rows 1 (SLs ns) false]
theorem if_app (ns:List (List UInt8)) (s:List UInt8) (h:ns.contains s=false) (b:Bool):(ns++if b=true then [s] else []).contains s=b:=by
 cases b with
 | true =>
  rw [List.contains_iff_mem]
  simp
 | false=>simpa using h
theorem l_oo2 (x:List Tbl) (hx:FitX x) (i:Nat) (hi:i < x.length) (t:Tbl) (ns:List (List UInt8)) (hns:ns.length≤100000) (hno:ns.contains t.nm=false) (ks:List It):∀ (q k:Nat) (b:Bool) (kk:Int) (Bo:Code),Loop Tryz.f24 2 Bo→kk=(k:Int)→x.length=k+q →
  RL K (.run 24 0 (.code Bo::.lp Bo (some ([1,2,3,4,5,6,14,15,16,23,24],[])) 5::.blk 2 5::ks) [(1,.ptr 0 0),(2,.ptr 1 0),(3,.own 3 (ns++if b=true then [t.nm] else []).length),(4,.ptr 2 0),(5,I (i:Int)),(6,.ptr 4 0),(14,.rows (x.map tblC)),(15,I (x.length:Int)),(16,I (i:Int)),(23,I (x.length:Int)),(24,I kk)] (ooH x .nils (ns++if b=true then [t.nm] else [])++[.cells (tblC t)])) =
  R K (.run 24 0 ks [(1,.ptr 0 0),(2,.ptr 1 0),(3,.own 3 (ns++if (b||anyF (circB x i) k q)=true then [t.nm] else []).length),(4,.ptr 2 0),(14,.rows (x.map tblC)),(15,I (x.length:Int)),(16,I (i:Int))] (ooH x .nils (ns++if (b||anyF (circB x i) k q)=true then [t.nm] else [])++[.cells (tblC t)]))
 | 0,k,b,kk,Bo,hB,hk,hq=>by
  subst hk
  have d:¬(k:Int) < (x.length:Int):=by omega
  simp only [anyF,Bool.or_false]
  generalize (ns++if b=true then [t.nm] else [])=ms
  unfold Loop at hB
  simp -implicitDefEqProofs only [go_sem,simprocAttr,Tryz.f24,loopOf] at hB
  subst hB
  rw [RL_eq]
  simp -implicitDefEqProofs only [go_sem,simprocAttr,ooH,tblC,d]
 | q+1,k,b,kk,Bo,hB,hk,hq=>by
  subst hk
  have hB':=hB
  have hlen:=hx.len
  have d:(k:Int) < (x.length:Int):=by omega
  have h7:wrapI .i64 ((k:Int)+1)=((k+1:Nat):Int):=next_id (n:=x.length) (by omega) (by omega)
  have g1:=reach_get hi
  have g2:=reach_get (x:=x) (show k < x.length by omega)
  have b1:=reach_bit (x:=x) (i:=i) (show k < x.length by omega)
  have b2:=reach_bit (x:=x) (i:=k) hi
  have e0:((k:Int)==(i:Int))=(i==k):=by rw [Bool.eq_iff_iff,beq_iff_eq,beq_iff_eq];omega
  have eN:(b||anyF (circB x i) k (q+1))=((b||circB x i k)||anyF (circB x i) (k+1) q):=by simp only [anyF,Bool.or_assoc]
  have ih:=l_oo2 x hx i hi t ns hns hno ks q (k+1) (b||circB x i k) _ Bo hB' rfl (by omega)
  have hlm:(ns++if b=true then [t.nm] else []).length≤1000000:=by rw [List.length_append];split<;>simp<;>omega
  have hcn:=c_contains t.nm (ns++if b=true then [t.nm] else []) hlm
  rw [if_app ns t.nm hno b] at hcn
  have rm:(((ns++if b=true then [t.nm] else []).length+1)*17≤roomMax)=True:=eq_true (by unfold roomMax;omega)
  rw [eN]
  have cB:circB x i k=(!(i==k)&&(reachM x i k&&reachM x k i)):=rfl
  rw [cB] at ih ⊢
  generalize anyF (circB x i) (k+1) q=z at *
  generalize reachM x i k=u at *
  generalize reachM x k i=v at *
  cases he:(i==k) with
  | true =>
   rw [he] at e0 ih
   simp only [Bool.not_true,Bool.false_and,Bool.or_false] at ih ⊢
   generalize (ns++if b=true then [t.nm] else [])=ms at *
   simp only [ooH,tblC,List.cons_append,List.nil_append] at ih
   unfold Loop at hB
   simp -implicitDefEqProofs only [go_sem,simprocAttr,Tryz.f24,loopOf] at hB
   subst hB
   rw [RL_eq]
   simp -implicitDefEqProofs only [go_sem,simprocAttr,ooH,tblC,d,h7,e0,bne]
   rw [ih,List.length_append]
  | false =>
   rw [he] at e0 ih
   cases u with
   | false =>
    simp only [Bool.not_false,Bool.and_false,Bool.false_and,Bool.or_false] at ih ⊢
    generalize (ns++if b=true then [t.nm] else [])=ms at *
    simp only [ooH,tblC,List.cons_append,List.nil_append] at ih
    unfold Loop at hB
    simp -implicitDefEqProofs only [go_sem,simprocAttr,Tryz.f24,loopOf] at hB
    subst hB
    rw [RL_eq]
    simp -implicitDefEqProofs only [go_sem,simprocAttr,ooH,tblC,d,h7,e0,bne,g1,g2,b1,b2]
    rw [ih,List.length_append]
   | true =>
    cases v with
    | false =>
     simp only [Bool.not_false,Bool.and_false,Bool.or_false] at ih ⊢
     generalize (ns++if b=true then [t.nm] else [])=ms at *
     simp only [ooH,tblC,List.cons_append,List.nil_append] at ih
     unfold Loop at hB
     simp -implicitDefEqProofs only [go_sem,simprocAttr,Tryz.f24,loopOf] at hB
     subst hB
     rw [RL_eq]
     simp -implicitDefEqProofs only [go_sem,simprocAttr,ooH,tblC,d,h7,e0,bne,g1,g2,b1,b2]
     rw [ih,List.length_append]
    | true =>
     cases b with
     | true =>
      simp only [Bool.not_false,Bool.and_true,Bool.or_true,Bool.true_or,if_true] at ih hcn hlm rm ⊢
      generalize (ns++[t.nm])=ms at *
      simp only [ooH,tblC,List.cons_append,List.nil_append] at ih
      unfold Loop at hB
      simp -implicitDefEqProofs only [go_sem,simprocAttr,Tryz.f24,loopOf] at hB
      subst hB
      rw [RL_eq]
      simp -implicitDefEqProofs only [go_sem,simprocAttr,ooH,tblC,d,h7,e0,bne,g1,g2,b1,b2,locsR_SLs,SLs_len,hcn]
      rw [ih]
     | false =>
      simp only [Bool.not_false,Bool.and_true,Bool.or_true,Bool.true_or,if_true,Bool.false_eq_true,if_false,List.append_nil] at ih hcn hlm rm ⊢
      simp only [ooH,tblC,List.cons_append,List.nil_append,List.length_append,List.length_cons,List.length_nil,Nat.zero_add] at ih
      unfold Loop at hB
      simp -implicitDefEqProofs only [go_sem,simprocAttr,Tryz.f24,loopOf] at hB
      subst hB
      rw [RL_eq]
      simp -implicitDefEqProofs only [go_sem,simprocAttr,ooH,tblC,d,h7,e0,bne,g1,g2,b1,b2,locsR_SLs,SLs_len,hcn,rm,SLs_app,List.length_append,List.length_cons,List.length_nil,Nat.zero_add]
      rw [ih]
theorem l_oo0 (x:List Tbl) (hx:FitX x) (hR:RightX x) (hn:x.length≤60) (ks:List It):∀ (q i:Nat) (C:List Nat) (ii:Int) (Bo:Code),Loop Tryz.f24 0 Bo→ii=(i:Int)→x.length=i+q→(∀ c∈C,c < i)→C.length≤i →
  RL K (.run 24 0 (.code Bo::.lp Bo (some ([1,2,3,4,14,15,16],[])) 4::.blk 0 4::ks) [(1,.ptr 0 0),(2,.ptr 1 0),(3,.own 3 (C.map (nmX x)).length),(4,.ptr 2 0),(14,.rows (x.map tblC)),(15,I (x.length:Int)),(16,I ii)] (ooH x .nils (C.map (nmX x)))) =
  R K (.run 24 0 ks [(1,.ptr 0 0),(2,.ptr 1 0),(3,.own 3 ((C++circN x i q).map (nmX x)).length),(4,.ptr 2 0)] (ooH x .nils ((C++circN x i q).map (nmX x))))
 | 0,i,C,ii,Bo,hB,hi,hq,hC,hl=>by
  subst hi
  have d:¬(i:Int) < (x.length:Int):=by omega
  simp only [circN,List.append_nil]
  generalize C.map (nmX x)=ms
  unfold Loop at hB
  simp -implicitDefEqProofs only [go_sem,simprocAttr,Tryz.f24,loopOf] at hB
  subst hB
  rw [RL_eq]
  simp -implicitDefEqProofs only [go_sem,simprocAttr,ooH,d]
 | q+1,i,C,ii,Bo,hB,hi,hq,hC,hl=>by
  subst hi
  have hB':=hB
  have d:(i:Int) < (x.length:Int):=by omega
  have h7:wrapI .i64 ((i:Int)+1)=((i+1:Nat):Int):=next_id (n:=x.length) (by omega) (by omega)
  obtain ⟨t,ht⟩:=some_at (l:=x) (i:=i) (by omega)
  have hg:=tbl_get ht
  have hno:(C.map (nmX x)).contains t.nm=false:=by
   rw [←nmX_at ht,in_names hR (fun j hj=>by have:=hC j hj;omega) (by omega)]
   cases e:C.contains i with
   | false=>rfl
   | true =>
    have:=hC i (by simpa using e)
    omega
  have l2:=fun ks B hB=>l_oo2 x hx i (by omega) t (C.map (nmX x)) (by rw [List.length_map];omega) hno ks x.length 0 false 0 B hB rfl (by omega)
  have hC2:∀ c∈C++(if anyF (circB x i) 0 x.length=true then [i] else []),c < i+1:=by
   intro c hc
   rcases List.mem_append.1 hc with h | h
   ·have:=hC c h;omega
   ·split at h
    ·simp at h;omega
    ·simp at h
  have hl2:(C++if anyF (circB x i) 0 x.length=true then [i] else []).length≤i+1:=by
   rw [List.length_append];split<;>simp<;>omega
  have ih:=l_oo0 x hx hR hn ks q (i+1) (C++if anyF (circB x i) 0 x.length=true then [i] else []) _ Bo hB' rfl (by omega) hC2 hl2
  have e:C++circN x i (q+1)=(C++if anyF (circB x i) 0 x.length=true then [i] else [])++circN x (i+1) q:=by
   rw [List.append_assoc];rfl
  have e2:(C.map (nmX x)++if anyF (circB x i) 0 x.length=true then [t.nm] else [])=(C++if anyF (circB x i) 0 x.length=true then [i] else []).map (nmX x):=by
   rw [List.map_append]
   split
   ·rw [List.map_singleton,nmX_at ht]
   ·rfl
  rw [e]
  simp only [Bool.false_or,Bool.false_eq_true,if_false,List.append_nil] at l2
  rw [e2] at l2
  generalize (C++if anyF (circB x i) 0 x.length=true then [i] else [])=D at *
  generalize (D++circN x (i+1) q).map (nmX x)=fs at *
  generalize C.map (nmX x)=cs at *
  generalize D.map (nmX x)=ds at *
  simp only [ooH,tblC,List.cons_append,List.nil_append] at hg l2 ih
  unfold Loop at hB
  simp -implicitDefEqProofs only [go_sem,simprocAttr,Tryz.f24,loopOf] at hB
  subst hB
  rw [RL_eq]
  simp -implicitDefEqProofs only [go_sem,simprocAttr,ooH,tblC,d,h7,hg,List.length_map]
  rw [l2 _ _ ?_]
  ·simp -implicitDefEqProofs only [go_sem,simprocAttr,h7,locsR_SLs]
   rw [ih]
  ·rfl
abbrev waH (x:List Tbl) (i:Nat):Heap:=[.cells [.rows (x.map tblC)],.cells [I (i:Int)],.cells [.nils],.cells [reachA x]]
abbrev wbH (x:List Tbl) (i:Nat) (o:List Nat):Heap:=[.cells [.rows (x.map tblC)],.cells [I (i:Int)],.cells [.own 4 o.length],.cells [reachA x],.rows 1 (SLs (o.map (nmX x))) false]
theorem k_38a (x:List Tbl) (hx:FitX x) (hR:RightX x) (i:Nat) (hi:i < x.length) (t:Tbl) (ht:t∈x) (f:Fgn) (hf:f∈t.fgn) :
  R K (.call 65 [fgnA f,.ptr 0 0,.ptr 1 0,.ptr 2 0,.ptr 3 0] (waH x i))=some (.bool (waitP x i [] f),waH x i):=by
 obtain ⟨n1,n2,n3⟩:=toN_is hR ht hf
 have g1:=r_TableAt x f.tb hx.len
 rw [n3] at g1
 have hcn:R K (.call 16 [.rows [],.str f.tb] [])=some (.bool false,[]):=c_contains f.tb [] (by simp)
 unfold waitP
 generalize toN x f=j at *
 have e0:((j:Int)==(i:Int))=(j==i):=by rw [Bool.eq_iff_iff,beq_iff_eq,beq_iff_eq];omega
 have r1:=reach_get hi
 have r2:=reach_get n1
 have b1:=reach_bit (x:=x) (i:=i) n1
 have b2:=reach_bit (x:=x) (i:=j) hi
 simp only [List.contains_nil]
 generalize reachM x i j=u at *
 generalize reachM x j i=v at *
 cases he:(j==i) with
 | true =>
  rw [he] at e0
  rw [call_65]
  simp -implicitDefEqProofs only [go_sem,simprocAttr,Tryz.f65,fgnC,g1,e0,bne]
  all_goals rfl
 | false =>
  rw [he] at e0
  cases u with
  | true =>
   rw [call_65]
   simp -implicitDefEqProofs only [go_sem,simprocAttr,Tryz.f65,fgnC,g1,e0,bne,hcn,r1,r2,b1,b2]
   all_goals rfl
  | false =>
   rw [call_65]
   simp -implicitDefEqProofs only [go_sem,simprocAttr,Tryz.f65,fgnC,g1,e0,bne,hcn,r1,r2,b1,b2]
   all_goals rfl
theorem k_38b (x:List Tbl) (hx:FitX x) (hR:RightX x) (i:Nat) (hi:i < x.length) (o:List Nat) (ho:∀ j∈o,j < x.length) (hl:o.length≤1000000) (t:Tbl) (ht:t∈x) (f:Fgn) (hf:f∈t.fgn) :
  R K (.call 65 [fgnA f,.ptr 0 0,.ptr 1 0,.ptr 2 0,.ptr 3 0] (wbH x i o))=some (.bool (waitP x i o f),wbH x i o):=by
 obtain ⟨n1,n2,n3⟩:=toN_is hR ht hf
 have g1:=r_TableAt x f.tb hx.len
 rw [n3] at g1
 have hcn:=c_contains f.tb (o.map (nmX x)) (by rw [List.length_map];exact hl)
 have lo:(SLs (o.map (nmX x))).length=o.length:=by rw [SLs_len,List.length_map]
 rw [←n2,in_names hR ho n1,n2] at hcn
 unfold waitP
 generalize toN x f=j at *
 have e0:((j:Int)==(i:Int))=(j==i):=by rw [Bool.eq_iff_iff,beq_iff_eq,beq_iff_eq];omega
 have r1:=reach_get hi
 have r2:=reach_get n1
 have b1:=reach_bit (x:=x) (i:=i) n1
 have b2:=reach_bit (x:=x) (i:=j) hi
 generalize reachM x i j=u at *
 generalize reachM x j i=v at *
 generalize o.contains j=c at *
 cases he:(j==i) with
 | true =>
  rw [he] at e0
  rw [call_65]
  simp -implicitDefEqProofs only [go_sem,simprocAttr,Tryz.f65,fgnC,g1,e0,bne,locsR_SLs,lo]
  all_goals rfl
 | false =>
  rw [he] at e0
  cases c with
  | true =>
   rw [call_65]
   simp -implicitDefEqProofs only [go_sem,simprocAttr,Tryz.f65,fgnC,g1,e0,bne,hcn,r1,r2,b1,b2,locsR_SLs,lo]
   all_goals rfl
  | false =>
   cases u with
   | true =>
    rw [call_65]
    simp -implicitDefEqProofs only [go_sem,simprocAttr,Tryz.f65,fgnC,g1,e0,bne,hcn,r1,r2,b1,b2,locsR_SLs,lo]
    all_goals rfl
   | false =>
    rw [call_65]
    simp -implicitDefEqProofs only [go_sem,simprocAttr,Tryz.f65,fgnC,g1,e0,bne,hcn,r1,r2,b1,b2,locsR_SLs,lo]
    all_goals rfl
theorem renR_SLs (σ:Nat→Nat):∀ l:List (List UInt8),renR σ (SLs l)=SLs l
 | []=>rfl
 | s::l=>by
  have:=renR_SLs σ l
  simp only [SLs,List.map_cons,renR,renL,ren] at this ⊢
  rw [this]
theorem v_38a (x:List Tbl) (hx:FitX x) (hR:RightX x) (i:Nat) (hi:i < x.length) (t:Tbl) (ht:t∈x) (f:Fgn) (hf:f∈t.fgn) :
  callV nlA (R K) (waH x i) [fgnA f] (.fn 65 [.ptr 0 0,.ptr 1 0,.ptr 2 0,.ptr 3 0])=some (.bool (waitP x i [] f),waH x i):=by
 have hk:=k_38a x hx hR i hi t ht f hf
 simp only [waH,fgnA,fgnC] at hk ⊢
 simp -implicitDefEqProofs only [go_sem,simprocAttr,hk]
theorem v_38b (x:List Tbl) (hx:FitX x) (hR:RightX x) (i:Nat) (hi:i < x.length) (o:List Nat) (ho:∀ j∈o,j < x.length) (hl:o.length≤1000000) (t:Tbl) (ht:t∈x) (f:Fgn) (hf:f∈t.fgn) :
  callV nlA (R K) (wbH x i o) [fgnA f] (.fn 65 [.ptr 0 0,.ptr 1 0,.ptr 2 0,.ptr 3 0])=some (.bool (waitP x i o f),wbH x i o):=by
 have hk:=k_38b x hx hR i hi o ho hl t ht f hf
 have lo:(SLs (o.map (nmX x))).length=o.length:=by rw [SLs_len,List.length_map]
 simp only [wbH,fgnA,fgnC] at hk ⊢
 simp -implicitDefEqProofs only [go_sem,simprocAttr,hk,locsR_SLs,renR_SLs,lo]
theorem c_any38a (x:List Tbl) (hx:FitX x) (hR:RightX x) (i:Nat) (hi:i < x.length) (t:Tbl) (ht:x[i]? = some t) :
  R K (.call 64 [.rows (t.fgn.map fgnC),.fn 65 [.ptr 0 0,.ptr 1 0,.ptr 2 0,.ptr 3 0]] (waH x i))=some (.bool (waitB (reachM x) (toL x i) (fun j=>([]:List Nat).contains j) i),waH x i):=by
 have hm:=List.mem_of_getElem? ht
 have hi2:=c_ixFgn _ (waH x i) (waitP x i []) rfl t.fgn (hx.tbl t hm).fgn (v_38a x hx hR i hi t hm)
 have e:=ixP_any (waitP x i []) t.fgn 0
 rw [any_waits ht []] at e
 simp only [waH] at hi2
 rw [call_64]
 simp -implicitDefEqProofs only [go_sem,simprocAttr,Tryz.f64,hi2,e]
theorem c_any38b (x:List Tbl) (hx:FitX x) (hR:RightX x) (i:Nat) (hi:i < x.length) (o:List Nat) (ho:∀ j∈o,j < x.length) (hl:o.length≤1000000) (t:Tbl) (ht:x[i]? = some t) :
  R K (.call 64 [.rows (t.fgn.map fgnC),.fn 65 [.ptr 0 0,.ptr 1 0,.ptr 2 0,.ptr 3 0]] (wbH x i o))=some (.bool (waitB (reachM x) (toL x i) (fun j=>o.contains j) i),wbH x i o):=by
 have hm:=List.mem_of_getElem? ht
 have hu:under (wbH x i o).length (locsH (wbH x i o))=true:=by
  refine under_of fun l hl=>?_
  simp only [locsH,locsB,locsL,locs,locsR_SLs,List.append_nil,List.nil_append,List.mem_cons,List.not_mem_nil,or_false] at hl
  subst hl
  simp
 have lo:(SLs (o.map (nmX x))).length=o.length:=by rw [SLs_len,List.length_map]
 have hi2:=c_ixFgn _ (wbH x i o) (waitP x i o) hu t.fgn (hx.tbl t hm).fgn (v_38b x hx hR i hi o ho hl t hm)
 have e:=ixP_any (waitP x i o) t.fgn 0
 rw [any_waits ht o] at e
 simp only [wbH] at hi2
 rw [call_64]
 simp -implicitDefEqProofs only [go_sem,simprocAttr,Tryz.f64,hi2,e,locsR_SLs,renR_SLs,lo]
abbrev o7H (x:List Tbl) (cs:List (List UInt8)) (i0:Nat) (t0:Tbl) (o:List Nat):Heap:=[.cells [.rows (x.map tblC)],.cells [.own 6 o.length],.cells [reachA x],.rows 1 (SLs cs) false,.cells [I (i0:Int)],.cells (tblC t0),.rows 1 (SLs (o.map (nmX x))) false]
theorem l_oo6a (x:List Tbl) (hx:FitX x) (hR:RightX x) (cs:List (List UInt8)) (k:Nat) (tk:Tbl) (htk:x[k]? = some tk) (ks:List It):∀ (q i:Nat) (ii:Int) (Bo:Code),Loop Tryz.f24 6 Bo→ii=(i:Int)→x.length=i+q→nextF (freeB x []) i q=some k →
  RL K (.run 24 0 (.code Bo::.lp Bo (some ([1,2,3,4,69,70,71],[])) 4::.blk 6 4::ks) [(1,.ptr 0 0),(2,.ptr 1 0),(3,.own 3 cs.length),(4,.ptr 2 0),(69,.rows (x.map tblC)),(70,I (x.length:Int)),(71,I ii)] (ooH x .nils cs)) =
  R K (.run 24 0 ks [(1,.ptr 0 0),(2,.ptr 1 0),(3,.own 3 cs.length),(4,.ptr 2 0)] (o7H x cs k tk [k]))
 | 0,i,ii,Bo,hB,hi,hq,hk=>by simp [nextF] at hk
 | q+1,i,ii,Bo,hB,hi,hq,hk=>by
  subst hi
  have hB':=hB
  have hlen:=hx.len
  have d:(i:Int) < (x.length:Int):=by omega
  have h7:wrapI .i64 ((i:Int)+1)=((i+1:Nat):Int):=next_id (n:=x.length) (by omega) (by omega)
  obtain ⟨t,ht⟩:=some_at (l:=x) (i:=i) (by omega)
  have hg:=tbl_get ht
  have hc:=c_any38a x hx hR i (by omega) t ht
  have hcn:R K (.call 16 [.rows [],.str t.nm] [])=some (.bool false,[]):=c_contains t.nm [] (by simp)
  have ih:=fun hk=>l_oo6a x hx hR cs k tk htk ks q (i+1) _ Bo hB' rfl (by omega) hk
  have hF:freeB x [] i=!waitB (reachM x) (toL x i) (fun j=>([]:List Nat).contains j) i:=rfl
  have hN:nextF (freeB x []) i (q+1)=if freeB x [] i=true then some i else nextF (freeB x []) (i+1) q:=rfl
  have rm:(17≤roomMax)=True:=eq_true (by unfold roomMax;omega)
  rw [hN,hF] at hk
  simp only [waH] at hc
  simp only [tblC] at hg
  cases hw:waitB (reachM x) (toL x i) (fun j=>([]:List Nat).contains j) i with
  | true =>
   rw [hw] at hc hk
   have ih:=ih (by simpa using hk)
   simp only [ooH,o7H] at ih
   unfold Loop at hB
   simp -implicitDefEqProofs only [go_sem,simprocAttr,Tryz.f24,loopOf] at hB
   subst hB
   rw [RL_eq]
   simp -implicitDefEqProofs only [go_sem,simprocAttr,ooH,tblC,d,h7,hg,List.length_map,locsR_SLs,hc]
   exact ih
  | false =>
   rw [hw] at hc hk
   have ek:i=k:=by simpa using hk
   subst ek
   rw [ht] at htk
   obtain rfl:=Option.some.inj htk
   have en:=nmX_at ht
   unfold Loop at hB
   simp -implicitDefEqProofs only [go_sem,simprocAttr,Tryz.f24,loopOf] at hB
   subst hB
   rw [RL_eq]
   simp -implicitDefEqProofs only [go_sem,simprocAttr,ooH,tblC,d,h7,hg,List.length_map,locsR_SLs,hc,hcn,rm,Nat.zero_add,Nat.one_mul]
   simp only [o7H,tblC,List.map_singleton,en]
   rfl
theorem l_oo6b (x:List Tbl) (hx:FitX x) (hR:RightX x) (cs:List (List UInt8)) (i0:Nat) (t0:Tbl) (o:List Nat) (ho:∀ j∈o,j < x.length) (hl:o.length≤1000000) (k:Nat) (ks:List It):∀ (q i:Nat) (ii:Int) (Bo:Code),Loop Tryz.f24 6 Bo→ii=(i:Int)→x.length=i+q→nextF (freeB x o) i q=some k →
  RL K (.run 24 0 (.code Bo::.lp Bo (some ([1,2,3,4,69,70,71],[])) 7::.blk 6 7::ks) [(1,.ptr 0 0),(2,.ptr 1 0),(3,.own 3 cs.length),(4,.ptr 2 0),(69,.rows (x.map tblC)),(70,I (x.length:Int)),(71,I ii)] (o7H x cs i0 t0 o)) =
  R K (.run 24 0 ks [(1,.ptr 0 0),(2,.ptr 1 0),(3,.own 3 cs.length),(4,.ptr 2 0)] (o7H x cs i0 t0 (o++[k])))
 | 0,i,ii,Bo,hB,hi,hq,hk=>by simp [nextF] at hk
 | q+1,i,ii,Bo,hB,hi,hq,hk=>by
  subst hi
  have hB':=hB
  have hlen:=hx.len
  have d:(i:Int) < (x.length:Int):=by omega
  have h7:wrapI .i64 ((i:Int)+1)=((i+1:Nat):Int):=next_id (n:=x.length) (by omega) (by omega)
  obtain ⟨t,ht⟩:=some_at (l:=x) (i:=i) (by omega)
  have hg:=tbl_get ht
  have hc:=c_any38b x hx hR i (by omega) o ho hl t ht
  have hcn:=c_contains t.nm (o.map (nmX x)) (by rw [List.length_map];exact hl)
  rw [←nmX_at ht,in_names hR ho (by omega),nmX_at ht] at hcn
  have lo:(SLs (o.map (nmX x))).length=o.length:=by rw [SLs_len,List.length_map]
  have sa:=SLs_add ht o
  have ih:=fun hk=>l_oo6b x hx hR cs i0 t0 o ho hl k ks q (i+1) _ Bo hB' rfl (by omega) hk
  have hF:freeB x o i=(!o.contains i&&!waitB (reachM x) (toL x i) (fun j=>o.contains j) i):=rfl
  have hN:nextF (freeB x o) i (q+1)=if freeB x o i=true then some i else nextF (freeB x o) (i+1) q:=rfl
  have rm:((o.length+1)*17≤roomMax)=True:=eq_true (by unfold roomMax;omega)
  rw [hN,hF] at hk
  simp only [wbH] at hc
  simp only [tblC] at hg
  cases hw:waitB (reachM x) (toL x i) (fun j=>o.contains j) i with
  | true =>
   rw [hw] at hc hk
   have ih:=ih (by simpa using hk)
   simp only [o7H,tblC,List.length_append,List.length_cons,List.length_nil,Nat.zero_add] at ih
   unfold Loop at hB
   simp -implicitDefEqProofs only [go_sem,simprocAttr,Tryz.f24,loopOf] at hB
   subst hB
   rw [RL_eq]
   simp -implicitDefEqProofs only [go_sem,simprocAttr,o7H,tblC,d,h7,hg,List.length_map,locsR_SLs,renR_SLs,lo,hc]
   exact ih
  | false =>
   rw [hw] at hc hk
   cases hn:o.contains i with
   | true =>
    rw [hn] at hk hcn
    have ih:=ih (by simpa using hk)
    simp only [o7H,tblC,List.length_append,List.length_cons,List.length_nil,Nat.zero_add] at ih
    unfold Loop at hB
    simp -implicitDefEqProofs only [go_sem,simprocAttr,Tryz.f24,loopOf] at hB
    subst hB
    rw [RL_eq]
    simp -implicitDefEqProofs only [go_sem,simprocAttr,o7H,tblC,d,h7,hg,List.length_map,locsR_SLs,renR_SLs,lo,hc,hcn]
    exact ih
   | false =>
    rw [hn] at hk hcn
    have ek:i=k:=by simpa using hk
    subst ek
    unfold Loop at hB
    simp -implicitDefEqProofs only [go_sem,simprocAttr,Tryz.f24,loopOf] at hB
    subst hB
    rw [RL_eq]
    simp -implicitDefEqProofs only [go_sem,simprocAttr,o7H,tblC,d,h7,hg,List.length_map,locsR_SLs,renR_SLs,lo,hc,hcn,rm,sa,List.length_append,List.length_cons,List.length_nil,Nat.zero_add]
theorem l_oo4 (x:List Tbl) (hx:FitX x) (hR:RightX x) (cs:List (List UInt8)) (i0:Nat) (t0:Tbl) (ks:List It):∀ (m:Nat) (o:List Nat) (Bo:Code),Loop Tryz.f24 4 Bo→x.length=o.length+m→(∀ j∈o,j < x.length) →
  RL K (.run 24 0 (.code Bo::.lp Bo (some ([1,2,3,4],[])) 4::.blk 4 4::ks) [(1,.ptr 0 0),(2,.ptr 1 0),(3,.own 3 cs.length),(4,.ptr 2 0)] (o7H x cs i0 t0 o)) =
  R K (.run 24 0 ks [(2,.ptr 1 0),(3,.own 3 cs.length)] (o7H x cs i0 t0 (ordN x m o)))
 | 0,o,Bo,hB,hq,ho=>by
  have d:¬(o.length:Int) < (x.length:Int):=by omega
  simp only [ordN]
  unfold Loop at hB
  simp -implicitDefEqProofs only [go_sem,simprocAttr,Tryz.f24,loopOf] at hB
  subst hB
  rw [RL_eq]
  simp -implicitDefEqProofs only [go_sem,simprocAttr,o7H,tblC,d,locsR_SLs,List.length_map]
 | m+1,o,Bo,hB,hq,ho=>by
  have hB':=hB
  have hlen:=hx.len
  have d:(o.length:Int) < (x.length:Int):=by omega
  obtain ⟨i,e1,e2,_⟩:=next_is hR o (by omega)
  have l6:=fun ks B hB=>l_oo6b x hx hR cs i0 t0 o ho (by omega) i ks x.length 0 0 B hB rfl (by omega) e1
  have ih:=l_oo4 x hx hR cs i0 t0 ks m (o++[i]) _ hB' (by simp;omega) (fun j hj=>by
   rcases List.mem_append.1 hj with h | h
   ·exact ho j h
   ·rw [List.mem_singleton] at h;omega)
  have hN:ordN x (m+1) o=ordN x m (o++[i]):=by simp only [ordN];rw [e1]
  rw [hN]
  simp only [o7H,tblC,List.length_append,List.length_cons,List.length_nil,Nat.zero_add] at l6 ih
  unfold Loop at hB
  simp -implicitDefEqProofs only [go_sem,simprocAttr,Tryz.f24,loopOf] at hB
  subst hB
  rw [RL_eq]
  simp -implicitDefEqProofs only [go_sem,simprocAttr,o7H,tblC,d,List.length_map]
  rw [l6 _ _ ?_]
  ·simp -implicitDefEqProofs only [go_sem,simprocAttr,locsR_SLs]
   exact ih
  ·rfl
theorem r_OrderR (x:List Tbl) (hx:FitX x) (hR:RightX x) (hn:x.length≤60):R K (.call 24 [schC x] [])=some (.tup [ordS x,cirS x],[]):=by
 have hlen:=hx.len
 have g2:=r_reach x hx hR
 have l0:=fun ks B hB=>l_oo0 x hx hR hn ks x.length 0 [] 0 B hB rfl (by omega) (by simp) (by simp)
 simp only [ooH,List.nil_append,List.map_nil] at l0
 rw [call_24]
 simp -implicitDefEqProofs only [go_sem,simprocAttr,Tryz.f24,List.length_map,g2]
 rw [show (AV.own 3 0)=AV.own 3 ([]:List (List UInt8)).length from rfl,l0 _ _ ?_]
 ·cases hm:x.length with
  | zero =>
   have ec:circN x 0 0=[]:=rfl
   have eo:ordS x=.rows []:=by unfold ordS;rw [hm];rfl
   have ei:cirS x=.rows []:=by unfold cirS;rw [hm];rfl
   have d:((0:Int) < (x.length:Int))=False:=eq_false (by omega)
   rw [eo,ei,ec]
   simp -implicitDefEqProofs only [go_sem,simprocAttr,locsR_SLs,List.length_map,List.map_nil,List.length_nil]
   rw [RL_eq]
   simp -implicitDefEqProofs only [go_sem,simprocAttr,locsR_SLs,List.length_map,d,or_self]
  | succ m =>
   obtain ⟨k,e1,e2,_⟩:=next_is hR [] (by simp;omega)
   obtain ⟨tk,htk⟩:=some_at (l:=x) (i:=k) e2
   have l6:=fun ks B hB=>l_oo6a x hx hR ((circN x 0 x.length).map (nmX x)) k tk htk ks x.length 0 0 B hB rfl (by omega) e1
   have l4:=fun ks B hB=>l_oo4 x hx hR ((circN x 0 x.length).map (nmX x)) k tk ks m [k] B hB (by simp;omega) (by simp;omega)
   have hN:ordS x=.rows (SLs ((ordN x m [k]).map (nmX x))):=by
    unfold ordS
    rw [hm]
    have:ordN x (m+1) []=ordN x m [k]:=by simp only [ordN];rw [e1];rfl
    rw [this]
   have hC:cirS x=.rows (SLs ((circN x 0 x.length).map (nmX x))):=rfl
   rw [←hm,hN,hC]
   generalize ordN x m [k]=o at *
   generalize (circN x 0 x.length).map (nmX x)=cs at *
   have d:((0:Int) < (x.length:Int))=True:=eq_true (by omega)
   simp only [ooH,o7H,tblC,List.map_singleton,List.length_cons,List.length_nil,Nat.zero_add] at l6 l4
   simp -implicitDefEqProofs only [go_sem,simprocAttr,locsR_SLs,List.length_map,d,or_self]
   rw [RL_eq]
   simp -implicitDefEqProofs only [go_sem,simprocAttr,locsR_SLs,List.length_map,d,or_self]
   rw [l6 _ _ ?_]
   ·simp -implicitDefEqProofs only [go_sem,simprocAttr,locsR_SLs]
    rw [l4 _ _ ?_]
    ·simp -implicitDefEqProofs only [go_sem,simprocAttr,locsR_SLs,SLs_len,List.length_map,or_self]
    ·rfl
   ·rfl
 ·rfl
theorem tm (a b:Int) (h:0≤a):a.tmod b=a % b:=Int.tmod_eq_emod_of_nonneg h
theorem td (a b:Int) (h:0≤a):a.tdiv b=a / b:=Int.tdiv_eq_ediv_of_nonneg h
def belowS (x n:Int):Int:=if n < 1 then 0 else if x.tmod n < 0 then wrapI .i64 (x.tmod n+n) else x.tmod n
theorem r_Below (x n:Int):R K (.call 55 [.int .i64 x,.int .i64 n] [])=some (.int .i64 (belowS x n),[]):=by
 by_cases hn:n < 1
 ·have h1:decide (n < 1)=true:=by simp [hn]
  rw [call_55]
  simp -implicitDefEqProofs only [go_sem,simprocAttr,Tryz.f55,h1]
  simp [belowS,hn]
 ·have h1:decide (n < 1)=false:=by simpa using hn
  have h2:n≠0:=by omega
  have e:belowS x n=if x.tmod n < 0 then wrapI .i64 (x.tmod n+n) else x.tmod n:=if_neg hn
  rw [e]
  rw [call_55]
  simp -implicitDefEqProofs only [go_sem,simprocAttr,Tryz.f55,h1,h2]
  repeat' ((first | apply split_cond | apply split_yes | apply split_no)<;>intro hc<;>simp -implicitDefEqProofs only [hc,go_sem,simprocAttr,h1,h2])
  all_goals simp_all
  intro;omega
theorem below_bounds (x n:Int) (h1:1≤n) (h2:n≤4611686018427387904):0≤belowS x n∧belowS x n < n:=by
 unfold belowS
 rw [if_neg (by omega)]
 have a:=Int.tmod_lt_of_pos x (show 0 < n by omega)
 have b:-n < x.tmod n:=by
  have:=Int.tmod_lt_of_pos (-x) (show 0 < n by omega)
  rw [Int.neg_tmod] at this
  omega
 split
 ·rw [wrap_id (by omega) (by omega)];omega
 ·omega
def nextS (L:List Int) (a n:Int):Int :=
 if L.length=0 then belowS (wrapI .i64 ((a+1)*7919)) n
 else belowS (wrapI .i64 (belowS (L.getD (a % L.length).toNat 0) 1073741824+wrapI .i64 (a / L.length*(7919+a % L.length)))) n
abbrev LR (L:List Int):AV:=.rows (L.map fun x=>[.int .i64 x])
theorem r_Next (L:List Int) (a n:Int) (ha:0≤a) (ha2:a≤4611686018427387904) (hL:L.length≤9223372036854775807):R K (.call 13 [.ptr 0 0,.int .i64 n] [.cells [LR L,.int .i64 a]])=some (.int .i64 (nextS L a n),[.cells [LR L,.int .i64 (a+1)]]):=by
 have e1:wrapI .i64 (a+1)=a+1:=wrap_id (by omega) (by omega)
 have e2:wrapI .i64 (a+1 - 1)=a:=by rw [wrap_id (by omega) (by omega)];omega
 have el:(L.map fun x=>[AV.int .i64 x]).length=L.length:=List.length_map _
 by_cases h:L.length=0
 ·have h0:decide (((L.length:Nat):Int)=0)=true:=by simp [h]
  have hb:(((L.length:Nat):Int)==0)=true:=by simp [h]
  have e:nextS L a n=belowS (wrapI .i64 ((a+1)*7919)) n:=if_pos h
  rw [e]
  rw [call_13]
  simp -implicitDefEqProofs only [go_sem,simprocAttr,Tryz.f13,e1,hb,el,r_Below]
 ·have hb:(((L.length:Nat):Int)==0)=false:=by simpa using h
  have hl1:(1:Int)≤L.length:=by omega
  have e3:a.tmod (L.length:Int)=a % L.length:=tm _ _ ha
  have e4:wrapI .i64 (a.tdiv (L.length:Int))=a / L.length:=by
   rw [td _ _ ha]
   have:=Int.ediv_le_self (L.length:Int) ha
   have:=Int.ediv_nonneg ha (show (0:Int)≤L.length by omega)
   exact wrap_id (by omega) (by omega)
  have m1:=Int.emod_nonneg a (show (L.length:Int)≠0 by omega)
  have m2:=Int.emod_lt_of_pos a (show (0:Int) < L.length by omega)
  have m3:a % (L.length:Int)≤a:=by
   rw [Int.emod_def]
   exact Int.sub_le_self a (Int.mul_nonneg (by omega) (Int.ediv_nonneg ha (by omega)))
  obtain ⟨x,hx⟩:=some_at (l:=L) (i:=(a % L.length).toNat) (by omega)
  have e5:at? (L.map fun x=>[AV.int .i64 x]) (a % L.length)=some [.int .i64 x]:=by
   unfold at?
   rw [if_pos m1]
   simp [hx]
  have e6:wrapI .i64 (7919+a % L.length)=7919+a % L.length:=wrap_id (by omega) (by omega)
  have hd:L.getD (a % L.length).toNat 0=x:=by simp [List.getD,hx]
  have hne:((L.length:Nat):Int)≠0:=by omega
  have e:nextS L a n=belowS (wrapI .i64 (belowS x 1073741824+wrapI .i64 (a / L.length*(7919+a % L.length)))) n:=by
   unfold nextS
   rw [if_neg h,hd]
  rw [e]
  rw [call_13]
  simp -implicitDefEqProofs only [go_sem,simprocAttr,Tryz.f13,e1,e2,e3,e4,e5,e6,hb,hne,h,el,r_Below]
theorem next_bounds (L:List Int) (a n:Int) (h1:1≤n) (h2:n≤4611686018427387904):0≤nextS L a n∧nextS L a n < n:=by
 unfold nextS
 split<;>exact below_bounds _ _ h1 h2
theorem p_Repeat (s:List UInt8) (c:Nat) (h:c≤1000) (hs:s.length≤1000):R K (.call 72 [.str s,I (c:Int)] [])=some (.str (Lib.repeatL s c),[]) :=
 R_prim (by
  show pRepeat [.str s,I (c:Int)]=_
  simp only [pRepeat]
  have:s.length*c≤1000*1000:=Nat.mul_le_mul hs h
  rw [if_pos (by simp only [Bool.and_eq_true,decide_eq_true_eq,Int.toNat_natCast];omega),Int.toNat_natCast])
abbrev St (L:List Int) (a:Int):Heap:=[.cells [LR L,I a]]
structure Gd (L:List Int) (a B:Int):Prop where
 pos:0≤a
 top:a+B≤4611686018427387904
 len:L.length≤9223372036854775807
theorem Gd.step {L:List Int} {a B:Int} (h:Gd L a B) (a' B':Int) (h1:a≤a') (h2:a'+B'≤a+B):Gd L a' B':=⟨by have:=h.pos;omega,by have:=h.top;omega,h.len⟩
def Out (t:Tk) (L:List Int) (a B:Int) (P:AV→Prop):Prop:=∃ r a',R K t=some (r,St L a')∧a≤a'∧a'≤a+B∧P r
theorem Out.mk {t:Tk} {L:List Int} {a B:Int} {P:AV→Prop} (r:AV) (a':Int) (h1:a≤a') (h2:a'≤a+B) (h3:P r) (e:R K t=some (r,St L a')):Out t L a B P:=⟨r,a',e,h1,h2,h3⟩
section
variable {L:List Int} {a B:Int}
theorem g_Next (h:Gd L a B) (hB:1≤B) (n:Int):R K (.call 13 [.ptr 0 0,I n] (St L a))=some (I (nextS L a n),St L (a+1)):=by
 have h1:=h.pos
 have h2:=h.top
 exact r_Next L a n h1 (by omega) h.len
def rngS (L:List Int) (a lo hi:Int):Int:=lo+nextS L a (hi - lo+1)
theorem range_bounds (L:List Int) (a lo hi:Int) (h1:lo≤hi) (h2:hi - lo≤4611686018427387000):lo≤rngS L a lo hi∧rngS L a lo hi≤hi:=by
 have:=next_bounds L a (hi - lo+1) (by omega) (by omega)
 unfold rngS
 omega
theorem g_Range (h:Gd L a B) (hB:1≤B) (lo hi:Int) (h1:lo≤hi) (h2:-1152921504606846976≤lo) (h3:hi≤1152921504606846976):R K (.call 6 [.ptr 0 0,I lo,I hi] (St L a))=some (I (rngS L a lo hi),St L (a+1)):=by
 have x0:=g_Next h hB (hi - lo+1)
 have b0:=range_bounds L a lo hi h1 (by omega)
 have d0:decide (hi < lo)=false:=decide_eq_false (by omega)
 have w1:wrapI .i64 (hi - lo)=hi - lo:=wrap_id (by omega) (by omega)
 have w2:wrapI .i64 (hi - lo+1)=hi - lo+1:=wrap_id (by omega) (by omega)
 have w3:wrapI .i64 (lo+nextS L a (hi - lo+1))=rngS L a lo hi:=by
  unfold rngS at b0 ⊢
  exact wrap_id (by omega) (by omega)
 rw [call_6]
 simp -implicitDefEqProofs only [go_sem,simprocAttr,Tryz.f6,x0,d0,w1,w2,w3]
theorem g_Flip (h:Gd L a B) (hB:1≤B) (n:Int):R K (.call 17 [.ptr 0 0,I n] (St L a))=some (.bool (nextS L a n==0),St L (a+1)):=by
 have x0:=g_Next h hB n
 rw [call_17]
 simp -implicitDefEqProofs only [go_sem,simprocAttr,Tryz.f17,x0]
theorem int_at {l:List Int} {i:Int} (h:0≤i∧i < (l.length:Int)):∃ x∈l,at? (l.map fun x=>[I x]) i=some [I x]:=by
 obtain ⟨x,hx⟩:=some_at (l:=l) (i:=i.toNat) (by omega)
 refine ⟨x,List.mem_of_getElem? hx,?_⟩
 unfold at?
 rw [if_pos h.1]
 simp [hx]
theorem g_Pick (h:Gd L a B) (hB:1≤B) (l:List Int) (hl:1≤l.length) (hl2:l.length≤1000):∃ x∈l,R K (.call 52 [.ptr 0 0,.rows (l.map fun x=>[I x])] (St L a))=some (I x,St L (a+1)):=by
 have x0:=g_Next h hB (l.length:Int)
 have b0:=next_bounds L a (l.length:Int) (by omega) (by omega)
 obtain ⟨x,hx,hg⟩:=int_at (l:=l) b0
 refine ⟨x,hx,?_⟩
 rw [call_52]
 simp -implicitDefEqProofs only [go_sem,simprocAttr,Tryz.f52,x0,hg]
theorem g_Int (h:Gd L a B) (hB:2≤B):∃ n a',R K (.call 70 [.ptr 0 0] (St L a))=some (I n,St L a')∧a≤a'∧a'≤a+2:=by
 have x0:=g_Next h (by omega) 10
 have h1:=h.step (a+1) (B - 1) (by omega) (by omega)
 by_cases e0:nextS L a 10=0
 ·obtain ⟨x,_,p⟩:=g_Pick h1 (by omega) [999999999999999,-999999999999999,1000000000000000,-1000000000000000,4611686018427387904,-9223372036854775808,9223372036854775807,253402300799,253402300800] (by decide) (by decide)
  simp only [List.map] at p
  refine ⟨x,a+1+1,?_,by omega,by omega⟩
  rw [call_70]
  simp -implicitDefEqProofs only [go_sem,simprocAttr,Tryz.f70,x0,e0,p]
 ·have b0:(nextS L a 10==0)=false:=by simpa using e0
  by_cases e1:nextS L a 10=1
  ·have x1:=g_Range h1 (by omega) (-1000000) 1000000 (by omega) (by omega) (by omega)
   refine ⟨rngS L (a+1) (-1000000) 1000000,a+1+1,?_,by omega,by omega⟩
   rw [call_70]
   simp -implicitDefEqProofs only [go_sem,simprocAttr,Tryz.f70,x0,e1,x1]
  ·have b1:(nextS L a 10==1)=false:=by simpa using e1
   have x1:=g_Range h1 (by omega) (-6) 12 (by omega) (by omega) (by omega)
   refine ⟨rngS L (a+1) (-6) 12,a+1+1,?_,by omega,by omega⟩
   rw [call_70]
   simp -implicitDefEqProofs only [go_sem,simprocAttr,Tryz.f70,x0,b0,b1,x1]
theorem str_at {l:List (List UInt8)} {i:Int} (h:0≤i∧i < (l.length:Int)):∃ x∈l,at? (l.map fun x=>[AV.str x]) i=some [.str x]:=by
 obtain ⟨x,hx⟩:=some_at (l:=l) (i:=i.toNat) (by omega)
 refine ⟨x,List.mem_of_getElem? hx,?_⟩
 unfold at?
 rw [if_pos h.1]
 simp [hx]
def pcs:List (List UInt8):=[[97],[98],[97,98],[],[65],[37],[95],[92],[39],[32],[48],[49,50],[45,51],[116,114,117,101],[120,44,121],[40],[50,48,48,48,45,48,50,45,50,57,84,48,48,58,48,48,58,48,48]]
theorem pcs_len:∀ x∈pcs,x.length≤19:=by decide
theorem pcs_no:∀ x∈pcs,x.count 41=0:=by decide
theorem rep_no (s:List UInt8) (h:s.count 41=0):∀ n:Nat,(Lib.repeatL s n).count 41=0
 | 0=>by simp [Lib.repeatL]
 | n+1=>by
  have:=rep_no s h n
  simp only [Lib.repeatL] at this ⊢
  simp [List.replicate_succ,List.count_append,h,this]
theorem l_text (c:Nat) (hc:c≤100) (ks:List It):∀ (m j:Nat) (i:Int) (t:List UInt8) (a B:Int) (Bo:Code),Loop Tryz.f71 0 Bo→Gd L a B→m≤B→i=(j:Int)→c=j+m→t.length≤19*j→t.count 41=0 →
  ∃ (t':List UInt8) (a':Int),a≤a'∧a'≤a+m∧(t'.length≤19*c∧t'.count 41=0) ∧
  RL K (.run 71 1 (.code Bo::.lp Bo (some ([0,3,4,18,19],[])) 1::.blk 0 1::ks) [(0,.ptr 0 0),(3,.lit (pcs.map fun x=>[.str x])),(4,.str t),(18,I (c:Int)),(19,I i)] (St L a)) =
  R K (.run 71 1 ks [(4,.str t')] (St L a'))
 | 0,j,i,t,a,B,Bo,hB,hG,hm,hi,hj,ht,hn=>by
  subst hi
  have h1:decide ((j:Int) < (c:Int))=false:=decide_eq_false (by omega)
  refine ⟨t,a,by omega,by omega,⟨by omega,hn⟩,?_⟩
  unfold Loop at hB
  simp -implicitDefEqProofs only [go_sem,simprocAttr,Tryz.f71,loopOf] at hB
  subst hB
  rw [RL_eq]
  simp -implicitDefEqProofs only [go_sem,simprocAttr,h1]
 | m+1,j,i,t,a,B,Bo,hB,hG,hm,hi,hj,ht,hn=>by
  subst hi
  have hB':=hB
  have h1:decide ((j:Int) < (c:Int))=true:=decide_eq_true (by omega)
  have x1:=g_Next hG (by omega) 17
  obtain ⟨x,hx,hg⟩:=str_at (l:=pcs) (next_bounds L a 17 (by omega) (by omega))
  have hxl:=pcs_len x hx
  have h7:=next_id (i:=j) (n:=c) (by omega) (by omega)
  have k1:(t.length+x.length≤strMax)=True:=eq_true (by unfold strMax;omega)
  have l1:(pcs.map fun x=>[AV.str x]).length=17:=rfl
  obtain ⟨t',a',q1,q2,q3,ih⟩:=l_text c hc ks m (j+1) _ (t++x) (a+1) (B - 1) Bo hB' (hG.step _ _ (by omega) (by omega)) (by omega) rfl (by omega) (by rw [List.length_append];omega) (by rw [List.count_append,hn,pcs_no x hx])
  refine ⟨t',a',by omega,by omega,q3,?_⟩
  unfold Loop at hB
  simp -implicitDefEqProofs only [go_sem,simprocAttr,Tryz.f71,loopOf] at hB
  subst hB
  rw [RL_eq]
  simp -implicitDefEqProofs only [go_sem,simprocAttr,h1,x1,hg,l1,h7,k1]
  rw [ih]
theorem g_text (h:Gd L a B) (hB:10≤B):∃ s a',R K (.call 71 [.ptr 0 0] (St L a))=some (.str s,St L a')∧a≤a'∧a'≤a+10∧s.length≤2000∧s.count 41=0:=by
 have x0:=g_Flip h (by omega) 12
 have h1:=h.step (a+1) (B - 1) (by omega) (by omega)
 cases e0:nextS L a 12==0 with
 | true =>
  rw [e0] at x0
  have x1:=g_Next h1 (by omega) 4
  obtain ⟨s,hs,hg⟩:=str_at (l:=[[97],[39],[92],[37]]) (next_bounds L (a+1) 4 (by omega) (by omega))
  have hsn:s.count 41=0:=(by decide:∀ x∈([[97],[39],[92],[37]]:List (List UInt8)),x.count 41=0) s hs
  have hsl:s.length≤1:=(by decide:∀ x∈([[97],[39],[92],[37]]:List (List UInt8)),x.length≤1) s hs
  have h2:=h1.step (a+1+1) (B - 2) (by omega) (by omega)
  obtain ⟨x,hx,p⟩:=g_Pick h2 (by omega) [49,50,51,99,100,101] (by decide) (by decide)
  have hxb:0≤x∧x≤101:=(by decide:∀ x∈([49,50,51,99,100,101]:List Int),0≤x∧x≤101) x hx
  have pr:=p_Repeat s x.toNat (by omega) (by omega)
  rw [Int.toNat_of_nonneg hxb.1] at pr
  simp only [List.map] at p hg
  refine ⟨Lib.repeatL s x.toNat,a+1+1+1,?_,by omega,by omega,?_⟩
  ·rw [call_71]
   simp -implicitDefEqProofs only [go_sem,simprocAttr,Tryz.f71,x0,x1,hg,p,pr]
  ·rw [Lib.repeatL_length,Nat.mul_comm]
   have:s.length*x.toNat≤1*101:=Nat.mul_le_mul hsl (by omega)
   exact ⟨by omega,rep_no s hsn _⟩
 | false =>
  rw [e0] at x0
  have x1:=g_Range h1 (by omega) 0 3 (by omega) (by omega) (by omega)
  have b1:=range_bounds L (a+1) 0 3 (by omega) (by omega)
  have e1:((rngS L (a+1) 0 3).toNat:Int)=rngS L (a+1) 0 3:=by omega
  obtain ⟨t',a',q1,q2,q3,lk⟩:=l_text (L:=L) (rngS L (a+1) 0 3).toNat (by omega) [.code _] (rngS L (a+1) 0 3).toNat 0 0 [] (a+1+1) (B - 2) _ rfl (h1.step _ _ (by omega) (by omega)) (by omega) rfl (by omega) (by simp) rfl
  rw [e1] at lk
  refine ⟨t',a',?_,by omega,by omega,by omega,q3.2⟩
  rw [call_71]
  simp -implicitDefEqProofs only [go_sem,simprocAttr,Tryz.f71,x0,x1]
  simp only [pcs,List.map] at lk
  rw [lk]
  simp -implicitDefEqProofs only [go_sem,simprocAttr]
theorem g_Full (h:Gd L a B) (hB:12≤B) (k:Int):∃ v a',R K (.call 117 [.ptr 0 0,I k] (St L a))=some (enc v,St L a')∧a≤a'∧a'≤a+12∧v.s.length≤2000∧v.s.count 41=0:=by
 by_cases k1:k=1
 ·subst k1
  have x0:=g_Next h (by omega) 2
  refine ⟨⟨1,nextS L a 2,[]⟩,a+1,?_,by omega,by omega,by simp,rfl⟩
  rw [call_117]
  simp -implicitDefEqProofs only [go_sem,simprocAttr,Tryz.f117,x0]
 have b1:(k==1)=false:=by simpa using k1
 by_cases k2:k=2
 ·subst k2
  obtain ⟨n,a',x0,q1,q2⟩:=g_Int h (by omega)
  refine ⟨⟨2,if 999999999999999 < (if n < -999999999999999 then -999999999999999 else n) then 999999999999999 else (if n < -999999999999999 then -999999999999999 else n),[]⟩,a',?_,by omega,by omega,by simp,rfl⟩
  rw [call_117]
  simp -implicitDefEqProofs only [go_sem,simprocAttr,Tryz.f117,x0]
  all_goals rfl
 have b2:(k==2)=false:=by simpa using k2
 by_cases k3:k=3
 ·subst k3
  obtain ⟨s,a',x0,q1,q2,q3⟩:=g_text h (by omega)
  by_cases hl:100 < s.length
  ·have d0:decide ((100:Int) < (s.length:Int))=true:=decide_eq_true (by omega)
   have d1:((100:Int)≤(s.length:Int))=True:=eq_true (by omega)
   have d2:(100:Int).toNat=100:=rfl
   refine ⟨⟨3,0,s.take 100⟩,a',?_,by omega,by omega,by simp;omega,Nat.eq_zero_of_le_zero (by show (s.take 100).count 41≤0;have:=List.Sublist.count_le (41:UInt8) (List.take_sublist 100 s);omega)⟩
   rw [call_117]
   simp -implicitDefEqProofs only [go_sem,simprocAttr,Tryz.f117,x0,d0,d1,d2]
  ·have d0:decide ((100:Int) < (s.length:Int))=false:=decide_eq_false (by omega)
   refine ⟨⟨3,0,s⟩,a',?_,by omega,by omega,q3⟩
   rw [call_117]
   simp -implicitDefEqProofs only [go_sem,simprocAttr,Tryz.f117,x0,d0]
 have b3:(k==3)=false:=by simpa using k3
 have x0:=g_Range h (by omega) 0 2147483648 (by omega) (by omega) (by omega)
 have h1:=h.step (a+1) (B - 1) (by omega) (by omega)
 obtain ⟨x,_,p⟩:=g_Pick h1 (by omega) [0,1,59,86399,86400,951782400,951868799,1709164800,1706659200,253402300799,rngS L a 0 2147483648] (by simp) (by simp)
 simp only [List.map] at p
 refine ⟨⟨k,x,[]⟩,a+1+1,?_,by omega,by omega,by simp,rfl⟩
 rw [call_117]
 simp -implicitDefEqProofs only [go_sem,simprocAttr,Tryz.f117,b1,b2,b3,x0,p]
theorem g_Value (h:Gd L a B) (hB:13≤B) (k:Int):∃ v a',R K (.call 69 [.ptr 0 0,I k] (St L a))=some (enc v,St L a')∧a≤a'∧a'≤a+13∧v.s.length≤2000∧v.s.count 41=0:=by
 have x0:=g_Flip h (by omega) 7
 have h1:=h.step (a+1) (B - 1) (by omega) (by omega)
 cases e0:nextS L a 7==0 with
 | true =>
  rw [e0] at x0
  refine ⟨null,a+1,?_,by omega,by omega,by simp [null],rfl⟩
  rw [call_69]
  simp -implicitDefEqProofs only [go_sem,simprocAttr,Tryz.f69,x0]
  all_goals rfl
 | false =>
  rw [e0] at x0
  obtain ⟨v,a',x1,q1,q2,q3⟩:=g_Full h1 (by omega) k
  refine ⟨v,a',?_,by omega,by omega,q3⟩
  rw [call_69]
  simp -implicitDefEqProofs only [go_sem,simprocAttr,Tryz.f69,x0,x1]
theorem g_Any (h:Gd L a B) (hB:30≤B):∃ v a',R K (.call 32 [.ptr 0 0] (St L a))=some (enc v,St L a')∧a≤a'∧a'≤a+30∧v.s.length≤2001∧v.s.count 41=0:=by
 have x0:=g_Range h (by omega) 1 4 (by omega) (by omega) (by omega)
 obtain ⟨v,a1,x1,q1,q2,q3⟩:=g_Value (h.step (a+1) (B - 1) (by omega) (by omega)) (by omega) (rngS L a 1 4)
 have h1:=h.step a1 (B - 14) (by omega) (by omega)
 have x2:=g_Flip h1 (by omega) 8
 cases e0:nextS L a1 8==0 with
 | false =>
  rw [e0] at x2
  refine ⟨v,a1+1,?_,by omega,by omega,by omega,q3.2⟩
  rw [call_32]
  simp -implicitDefEqProofs only [go_sem,simprocAttr,Tryz.f32,x0,x1,x2]
 | true =>
  rw [e0] at x2
  have h2:=h1.step (a1+1) (B - 15) (by omega) (by omega)
  have x3:=g_Next h2 (by omega) 5
  have h3:=h2.step (a1+1+1) (B - 16) (by omega) (by omega)
  by_cases c0:nextS L (a1+1) 5=0
  ·obtain ⟨x,_,p⟩:=g_Pick h3 (by omega) [-1,5,0,1,2,3,4] (by decide) (by decide)
   simp only [List.map] at p
   refine ⟨⟨x,v.n,v.s⟩,a1+1+1+1,?_,by omega,by omega,by simp only;omega,q3.2⟩
   rw [call_32]
   simp -implicitDefEqProofs only [go_sem,simprocAttr,Tryz.f32,x0,x1,x2,x3,c0,p]
  have b0:(nextS L (a1+1) 5==0)=false:=by simpa using c0
  by_cases c1:nextS L (a1+1) 5=1
  ·obtain ⟨n,a2,p,r1,r2⟩:=g_Int h3 (by omega)
   refine ⟨⟨v.k,n,v.s⟩,a2,?_,by omega,by omega,by simp only;omega,q3.2⟩
   rw [call_32]
   simp -implicitDefEqProofs only [go_sem,simprocAttr,Tryz.f32,x0,x1,x2,x3,c1,p]
  have b1:(nextS L (a1+1) 5==1)=false:=by simpa using c1
  by_cases c2:nextS L (a1+1) 5=2
  ·obtain ⟨s,a2,p,r1,r2,r3⟩:=g_text h3 (by omega)
   refine ⟨⟨v.k,v.n,s⟩,a2,?_,by omega,by omega,by simp only;omega,r3.2⟩
   rw [call_32]
   simp -implicitDefEqProofs only [go_sem,simprocAttr,Tryz.f32,x0,x1,x2,x3,c2,p]
  have b2:(nextS L (a1+1) 5==2)=false:=by simpa using c2
  by_cases c3:nextS L (a1+1) 5=3
  ·have k1:(v.s.length+1≤strMax)=True:=eq_true (by unfold strMax;omega)
   refine ⟨⟨v.k,v.n,v.s++[10]⟩,a1+1+1,?_,by omega,by omega,by simp;omega,by simp only;rw [List.count_append,q3.2];rfl⟩
   rw [call_32]
   simp -implicitDefEqProofs only [go_sem,simprocAttr,Tryz.f32,x0,x1,x2,x3,c3,k1]
  have b3:(nextS L (a1+1) 5==3)=false:=by simpa using c3
  obtain ⟨x,hx,p⟩:=g_Pick h3 (by omega) [100,101] (by decide) (by decide)
  have hxb:0≤x∧x≤101:=(by decide:∀ x∈([100,101]:List Int),0≤x∧x≤101) x hx
  have pr:=p_Repeat [122] x.toNat (by omega) (by simp)
  rw [Int.toNat_of_nonneg hxb.1] at pr
  simp only [List.map] at p
  refine ⟨⟨v.k,v.n,Lib.repeatL [122] x.toNat⟩,a1+1+1+1,?_,by omega,by omega,?_⟩
  ·rw [call_32]
   simp -implicitDefEqProofs only [go_sem,simprocAttr,Tryz.f32,x0,x1,x2,x3,b0,b1,b2,b3,p,pr]
  ·simp only
   rw [Lib.repeatL_length]
   exact ⟨by simp;omega,rep_no _ rfl _⟩
theorem g_column (h:Gd L a B) (hB:20≤B) (nm:List UInt8):∃ (c:Col) (a':Int),R K (.call 53 [.ptr 0 0,.str nm] (St L a))=some (.agg (colC c),St L a')∧a≤a'∧a'≤a+20∧c.nm=nm:=by
 obtain ⟨x,hx,p⟩:=g_Pick h (by omega) [2,2,3,1,4] (by decide) (by decide)
 simp only [List.map] at p
 have h1:=h.step (a+1) (B - 1) (by omega) (by omega)
 have x1:=g_Flip h1 (by omega) 2
 have h2:=h1.step (a+1+1) (B - 2) (by omega) (by omega)
 have x2:=g_Flip h2 (by omega) 4
 have h3:=h2.step (a+1+1+1) (B - 3) (by omega) (by omega)
 generalize (nextS L (a+1) 2==0)=b1 at *
 cases e2:nextS L (a+1+1) 4==0 with
 | true =>
  rw [e2] at x2
  obtain ⟨v,a',x3,q1,q2,_⟩:=g_Value h3 (by omega) x
  simp only [enc] at x3
  refine ⟨⟨nm,x,b1,v⟩,a',?_,by omega,by omega,rfl⟩
  rw [call_53]
  simp -implicitDefEqProofs only [go_sem,simprocAttr,Tryz.f53,p,x1,x2,x3,colC]
 | false =>
  rw [e2] at x2
  refine ⟨⟨nm,x,b1,⟨0,0,[]⟩⟩,a+1+1+1,?_,by omega,by omega,rfl⟩
  rw [call_53]
  simp -implicitDefEqProofs only [go_sem,simprocAttr,Tryz.f53,p,x1,x2,colC]
def ints (l:List Int):List (List AV):=l.map fun x=>[I x]
def Lows (n:Nat) (l:List Int):Prop:=l.length=n∧∀ x∈l,0≤x∧x < (n:Int)
theorem intsL (l:List Int):(ints l).length=l.length:=by simp [ints]
theorem ints_app (l:List Int) (x:Int):ints l++[[I x]]=ints (l++[x]):=by simp [ints]
theorem ints_at {l:List Int} {i:Nat} {x:Int} (h:l[i]? = some x):(ints l)[i]? = some [I x]:=by simp [ints,h]
theorem ints_set (l:List Int) (i:Nat) (x:Int):(ints l).set i [I x]=ints (l.set i x):=by simp [ints,List.map_set]
theorem locsR_ints:∀ l:List Int,locsR (ints l)=[]
 | []=>rfl
 | x::l=>by simpa [ints,locsR,locsL,locs] using locsR_ints l
theorem l_ord0 (n:Nat) (hn:n≤20):∀ (q j:Nat) (l:List Int),n=j+q→l.length=j→(∀ x∈l,0≤x∧x < (n:Int))→∃ l',Lows n l'∧∀ (ks:List It) (Bo:Code) (jj:Int),Loop Tryz.f54 0 Bo→jj=(j:Int) →
  RL K (.run 54 1 (.code Bo::.lp Bo (some ([0,1,5,9,10],[])) 2::.blk 0 2::ks) [(0,.ptr 0 0),(1,I (n:Int)),(5,.own 1 l.length),(9,I (n:Int)),(10,I jj)] [.cells [LR L,I a],.rows 1 (ints l) true]) =
  R K (.run 54 1 ks [(0,.ptr 0 0),(1,I (n:Int)),(5,.own 1 n)] [.cells [LR L,I a],.rows 1 (ints l') true])
 | 0,j,l,hq,hl,hx=>by
  have d:¬(j:Int) < (n:Int):=by omega
  have e:l.length=n:=by omega
  refine ⟨l,⟨e,hx⟩,fun ks Bo jj hB hj=>?_⟩
  subst hj
  unfold Loop at hB
  simp -implicitDefEqProofs only [go_sem,simprocAttr,Tryz.f54,loopOf] at hB
  subst hB
  rw [RL_eq]
  simp -implicitDefEqProofs only [go_sem,simprocAttr,d,locsR_ints,e]
 | q+1,j,l,hq,hl,hx=>by
  have d:(j:Int) < (n:Int):=by omega
  have h7:=next_id (i:=j) (n:=n) (by omega) (by omega)
  obtain ⟨l',p,ih⟩:=l_ord0 n hn q (j+1) (l++[(j:Int)]) (by omega) (by simp [hl]) (fun x hx'=>by
   rcases List.mem_append.1 hx' with h | h
   ·exact hx x h
   ·rw [List.mem_singleton] at h;omega)
  refine ⟨l',p,fun ks Bo jj hB hj=>?_⟩
  subst hj
  have ih:=ih ks Bo _ hB rfl
  have rm:((l.length+1)*9≤roomMax)=True:=eq_true (by unfold roomMax;omega)
  simp only [List.length_append,List.length_cons,List.length_nil,Nat.zero_add] at ih
  unfold Loop at hB
  simp -implicitDefEqProofs only [go_sem,simprocAttr,Tryz.f54,loopOf] at hB
  subst hB
  rw [RL_eq]
  simp -implicitDefEqProofs only [go_sem,simprocAttr,d,h7,locsR_ints,intsL,ints_app,rm]
  exact ih
theorem lows_set {n:Nat} {l:List Int} (h:Lows n l) (i:Nat) {x:Int} (hx:x∈l):Lows n (l.set i x):=by
 refine ⟨by rw [List.length_set];exact h.1,fun y hy=>?_⟩
 rcases List.mem_or_eq_of_mem_set hy with h1 | h1
 ·exact h.2 y h1
 ·rw [h1];exact h.2 x hx
theorem l_ord2 (n:Nat) (hn:n≤20):∀ (i:Nat) (l:List Int) (a B:Int),i < n→Gd L a B→(i:Int)≤B→Lows n l→∃ (l':List Int) (a':Int),a≤a'∧a'≤a+i∧Lows n l'∧∀ (ks:List It) (Bo:Code),Loop Tryz.f54 2 Bo →
  RL K (.run 54 1 (.code Bo::.lp Bo (some ([0,5,7],[])) 2::.blk 2 2::ks) [(0,.ptr 0 0),(5,.own 1 n),(7,I (i:Int))] [.cells [LR L,I a],.rows 1 (ints l) true]) =
  R K (.run 54 1 ks [(5,.own 1 n)] [.cells [LR L,I a'],.rows 1 (ints l') true])
 | 0,l,a,B,hi,hG,hB',hl=>by
  refine ⟨l,a,by omega,by omega,hl,fun ks Bo hB=>?_⟩
  unfold Loop at hB
  simp -implicitDefEqProofs only [go_sem,simprocAttr,Tryz.f54,loopOf] at hB
  subst hB
  rw [RL_eq]
  simp -implicitDefEqProofs only [go_sem,simprocAttr,locsR_ints]
 | i+1,l,a,B,hi,hG,hB',hl=>by
  have hx0:=g_Next hG (by omega) ((i:Int)+1+1)
  have b0:=next_bounds L a ((i:Int)+1+1) (by omega) (by omega)
  obtain ⟨k,hk⟩:∃ k:Nat,nextS L a ((i:Int)+1+1)=(k:Int):=⟨(nextS L a ((i:Int)+1+1)).toNat,by omega⟩
  rw [hk] at hx0 b0
  have hll:=hl.1
  obtain ⟨xi,hxi⟩:=some_at (l:=l) (i:=i+1) (by omega)
  obtain ⟨xk,hxk⟩:=some_at (l:=l) (i:=k) (by omega)
  have mi:=List.mem_of_getElem? hxi
  have mk:=List.mem_of_getElem? hxk
  have l1:=lows_set hl (i+1) mk
  have hxi1:xi∈l.set (i+1) xk∨True:=.inr trivial
  obtain ⟨z,hz⟩:=some_at (l:=l.set (i+1) xk) (i:=k) (by rw [List.length_set];omega)
  have l2:Lows n ((l.set (i+1) xk).set k xi):=by
   refine ⟨by rw [List.length_set,List.length_set];exact hl.1,fun y hy=>?_⟩
   rcases List.mem_or_eq_of_mem_set hy with h1 | h1
   ·exact l1.2 y h1
   ·rw [h1];exact hl.2 xi mi
  obtain ⟨l',a',q1,q2,q3,ih⟩:=l_ord2 n hn i ((l.set (i+1) xk).set k xi) (a+1) (B - 1) (by omega) (hG.step _ _ (by omega) (by omega)) (by omega) l2
  refine ⟨l',a',by omega,by omega,q3,fun ks Bo hB=>?_⟩
  have ih:=ih ks Bo hB
  have c1:(((i+1:Nat):Int))=(i:Int)+1:=by omega
  have w1:wrapI .i64 ((i:Int)+1+1)=(i:Int)+1+1:=wrap_id (by omega) (by omega)
  have w2:wrapI .i64 ((i:Int)+1 - 1)=(i:Int):=by rw [wrap_id (by omega) (by omega)];omega
  have d:((i:Int)+1 > 0)=True:=eq_true (by omega)
  have d2:((0:Int) < (i:Int)+1)=True:=eq_true (by omega)
  have ai:at? (ints l) ((i:Int)+1)=some [I xi]:=by
   have:=at_get (ints_at hxi);rw [c1] at this;exact this
  have ak:=at_get (ints_at hxk)
  have bi:=ints_at hxi
  have bk:=ints_at hxk
  have bz:=ints_at hz
  have az:=at_get bz
  have ti:((i:Int)+1).toNat=i+1:=by omega
  have sp:∀ b c:Int,splice [I b] 0 [I c]=[I c]:=fun _ _=>rfl
  have n1:(ints l).length=n:=by rw [intsL];exact hl.1
  have n2:(ints (l.set (i+1) xk)).length=n:=by rw [intsL];exact l1.1
  rw [c1]
  unfold Loop at hB
  simp -implicitDefEqProofs only [go_sem,simprocAttr,Tryz.f54,loopOf] at hB
  subst hB
  rw [RL_eq]
  simp -implicitDefEqProofs only [go_sem,simprocAttr,hx0,w1,w2,d,d2,ai,ak,bi,bk,bz,az,ti,sp,n1,n2,ints_set,locsR_ints,Int.toNat_natCast]
  exact ih
theorem g_Order (h:Gd L a B) (n:Nat) (h1:1≤n) (hn:n≤20) (hB:20≤B):∃ (l:List Int) (a':Int),Lows n l∧a≤a'∧a'≤a+20∧R K (.call 54 [.ptr 0 0,I (n:Int)] (St L a))=some (.rows (ints l),St L a'):=by
 obtain ⟨l0,p0,e0⟩:=l_ord0 (L:=L) (a:=a) n hn n 0 [] (by omega) rfl (by simp)
 obtain ⟨l,a',q1,q2,q3,e2⟩:=l_ord2 (L:=L) n hn (n - 1) l0 a B (by omega) h (by omega) p0
 have w:wrapI .i64 ((n:Int) - 1)=((n - 1:Nat):Int):=by rw [wrap_id (by omega) (by omega)];omega
 have nl:(ints l).length=n:=by rw [intsL];exact q3.1
 refine ⟨l,a',q3,q1,by omega,?_⟩
 rw [show ints []=[] from rfl,List.length_nil] at e0
 rw [call_54]
 simp -implicitDefEqProofs only [go_sem,simprocAttr,Tryz.f54]
 rw [e0 _ _ 0 ?_ rfl]
 ·simp -implicitDefEqProofs only [go_sem,simprocAttr,w]
  rw [e2 _ _ ?_]
  ·simp -implicitDefEqProofs only [go_sem,simprocAttr,locsR_ints,nl,true_or]
  ·rfl
 ·rfl
end
abbrev idB:List UInt8:=[105,100]
abbrev kB:List UInt8:=[107]
abbrev idCol:Col:=⟨[105,100],2,false,⟨0,0,[]⟩⟩
abbrev ret5:Blk:=.cells [.str [],.nils,.nils,.nils,.nils]
theorem locsR_cols:∀ l:List Col,locsR (l.map colC)=[]
 | []=>rfl
 | x::l=>by simpa [colC,locsR,locsL,locs] using locsR_cols l
theorem cols_app (l:List Col) (c:Col):l.map colC++[colC c]=(l++[c]).map colC:=by simp
theorem letter (j:Nat) (hj:j≤10):∃ s:List UInt8,(Utf8.encode (wrapI .i32 (97+(j:Int)))).data.toList=s∧s.length≤4:=by
 refine ⟨_,rfl,?_⟩
 have h:∀ n:Fin 11,(Utf8.encode (wrapI .i32 (97+(n.val:Int)))).data.toList.length≤4:=by decide
 exact h ⟨j,by omega⟩
structure ColsOk (cols:List Col) (m:Nat):Prop where
 len:cols.length≤m
 pos:1≤cols.length
 nm:∀ c∈cols,c.nm.length≤100
 id:idB∈cols.map (·.nm)
theorem ColsOk.add {cols:List Col} {m:Nat} (h:ColsOk cols m) (c:Col) (hc:c.nm.length≤100):ColsOk (cols++[c]) (m+1):=by
 refine ⟨by simp;exact h.len,by simp,fun d hd=>?_,by rw [List.map_append];exact List.mem_append_left _ h.id⟩
 rcases List.mem_append.1 hd with h1 | h1
 ·exact h.nm d h1
 ·rw [List.mem_singleton] at h1;rw [h1];exact hc
section
variable {L:List Int}
theorem l_tb0 (nm:List UInt8) (r:Nat) (hr:r≤4) (kv:AV) (kt:Heap) (m:Nat) (hs:(kv=.lit (SLs [idB])∧kt=[]∧m=3)∨(kv=.own 4 2∧kt=[.rows 1 (SLs [idB,kB]) false]∧m=5)):∀ (q j:Nat) (cols:List Col) (a B:Int) (u:Nat),r=j+q→u+q≤10→Gd L a B→(20*q:Int)≤B→ColsOk cols u →
  ∃ (cols':List Col) (a':Int),a≤a'∧a'≤a+20*q∧ColsOk cols' (u+q)∧(∀ n∈cols.map (·.nm),n∈cols'.map (·.nm))∧∀ (ks:List It) (Bo:Code) (jj:Int),Loop Tryz.f12 0 Bo→jj=(j:Int) →
  RL K (.run 12 1 (.code Bo::.lp Bo (some ([0,4,5,33,34],[])) m::.blk 0 m::ks) [(0,.ptr 0 0),(4,.ptr 1 0),(5,.ptr 2 0),(33,I (r:Int)),(34,I jj)] (.cells [LR L,I a]::ret5::.cells [.str nm,.own 3 cols.length,kv,.nils,.nils]::.rows 6 (cols.map colC) true::kt)) =
  R K (.run 12 1 ks [(0,.ptr 0 0),(4,.ptr 1 0),(5,.ptr 2 0)] (.cells [LR L,I a']::ret5::.cells [.str nm,.own 3 cols'.length,kv,.nils,.nils]::.rows 6 (cols'.map colC) true::kt))
 | 0,j,cols,a,B,u,hq,hu,hG,hB',hc=>by
  have d:¬(j:Int) < (r:Int):=by omega
  refine ⟨cols,a,by omega,by omega,hc,fun n hn=>hn,fun ks Bo jj hB hj=>?_⟩
  subst hj
  rcases hs with ⟨rfl,rfl,rfl⟩ | ⟨rfl,rfl,rfl⟩
  ·unfold Loop at hB
   simp -implicitDefEqProofs only [go_sem,simprocAttr,Tryz.f12,loopOf] at hB
   subst hB
   rw [RL_eq]
   simp -implicitDefEqProofs only [go_sem,simprocAttr,d,locsR_cols,locsR_SLs]
  ·unfold Loop at hB
   simp -implicitDefEqProofs only [go_sem,simprocAttr,Tryz.f12,loopOf] at hB
   subst hB
   rw [RL_eq]
   simp -implicitDefEqProofs only [go_sem,simprocAttr,d,locsR_cols,locsR_SLs]
 | q+1,j,cols,a,B,u,hq,hu,hG,hB',hc=>by
  have d:(j:Int) < (r:Int):=by omega
  have h7:=next_id (i:=j) (n:=r) (by omega) (by omega)
  obtain ⟨s,es,hsl⟩:=letter j (by omega)
  have w1:wrapI .i64 (97+(j:Int))=97+(j:Int):=wrap_id (by omega) (by omega)
  obtain ⟨c,a1,x1,q1,q2,q3⟩:=g_column hG (by omega) (99::s)
  obtain ⟨cols',a',p1,p2,p3,p4,ih⟩:=l_tb0 nm r hr kv kt m hs q (j+1) (cols++[c]) a1 (B - 20) (u+1) (by omega) (by omega) (hG.step _ _ (by omega) (by omega)) (by omega) (hc.add c (by rw [q3];simp;omega))
  refine ⟨cols',a',by omega,by omega,by rw [show u+(q+1)=u+1+q by omega];exact p3,fun n hn=>p4 n (by rw [List.map_append];exact List.mem_append_left _ hn),fun ks Bo jj hB hj=>?_⟩
  subst hj
  have ih:=ih ks Bo _ hB rfl
  have hcl:=hc.len
  have ca:=cols_app cols c
  have al:=allLen_cols cols
  have rm:((cols.length+1)*65≤roomMax)=True:=eq_true (by unfold roomMax;omega)
  have st:(1+s.length≤strMax)=True:=eq_true (by unfold strMax;omega)
  simp only [List.length_append,List.length_cons,List.length_nil,Nat.zero_add,colC] at ih x1 ca
  rcases hs with ⟨rfl,rfl,rfl⟩ | ⟨rfl,rfl,rfl⟩
  ·unfold Loop at hB
   simp -implicitDefEqProofs only [go_sem,simprocAttr,Tryz.f12,loopOf] at hB
   subst hB
   rw [RL_eq]
   simp -implicitDefEqProofs only [go_sem,simprocAttr,d,h7,w1,es,x1,ca,al,rm,st,colC,locsR_cols,locsR_SLs,List.length_map]
   exact ih
  ·unfold Loop at hB
   simp -implicitDefEqProofs only [go_sem,simprocAttr,Tryz.f12,loopOf] at hB
   subst hB
   rw [RL_eq]
   simp -implicitDefEqProofs only [go_sem,simprocAttr,d,h7,w1,es,x1,ca,al,rm,st,colC,locsR_cols,locsR_SLs,List.length_map]
   exact ih
end
theorem locsR_idx:∀ l:List Idx,locsR (l.map idxC)=[]
 | []=>rfl
 | x::l=>by simpa [idxC,locsR,locsL,locs] using locsR_idx l
theorem idx_app (l:List Idx) (c:Idx):l.map idxC++[idxC c]=(l++[c]).map idxC:=by simp
theorem SLs_nil:SLs []=[]:=rfl
theorem ints_take (l:List Int) (k:Nat):List.take k (ints l)=ints (l.take k):=by simp [ints,List.map_take]
theorem allLen_ints:∀ l:List Int,allLen 1 (ints l)=true
 | []=>rfl
 | x::l=>by simpa [ints,allLen] using allLen_ints l
def TbS (cols:List Col) (key:List (List UInt8)) (cv kv:AV) (g:Heap):Prop :=
 (cv=.lit (cols.map colC)∧kv=.lit (SLs key)∧g=[])∨(cv=.rows (cols.map colC)∧kv=.lit (SLs key)∧g=[.hole])∨(cv=.rows (cols.map colC)∧kv=.rows (SLs key)∧g=[.hole,.hole])
end Go.Ab
