/- What is proved: contracts of the program's and the reference's functions in the evaluator, and plain laws on them. Conditions: as each states. -/
import Derived.Test.YtaebljhlgbbjnaaGreatDoorMC
import Derived.IntWalk
import Derived.KernelRfl
import Derived.Lib.ItoaMem
import Derived.Lib.AtoiAllCases
import Derived.Lib.ItoaLen
import Derived.Lib.CountLaws
import Derived.Lib.Replace
import Derived.Lib.CutLaws
import Derived.Lib.Strings
import Derived.Lib.IndexMore
import Derived.Lib.Join
set_option linter.unusedSimpArgs false
set_option linter.unusedSectionVars false
set_option linter.unusedVariables false
set_option maxRecDepth 100000
namespace Go.Ab
open Go Go.Proofs
structure Val where
 k:Int
 n:Int
 s:List UInt8
 deriving DecidableEq
@[go_sem] def enc (v:Val):AV:=.agg [.int .i64 v.k,.int .i64 v.n,.str v.s]
@[go_sem] theorem Val.eta (v:Val):Val.mk v.k v.n v.s=v:=rfl
def null:Val:=⟨0,0,[]⟩
def loopOf:Code→Nat→Option Code
 | .seq a b,i=>match loopOf a i with
  | some c=>some c
  | none=>loopOf b i
 | .cond _ a b,i=>match loopOf a i with
  | some c=>some c
  | none=>loopOf b i
 | .block j c,i=>if j=i then (match c with
  | .loop b=>some b
  | _=>none) else loopOf c i
 | .loop c,i=>loopOf c i
 | _,_=>none
def Loop (f:Func) (i:Nat) (B:Code):Prop:=loopOf (f.body.getD .skip) i=some B
@[go_sem] theorem wrap_id {n:Int} (h1:-9223372036854775808≤n) (h2:n≤9223372036854775807):wrapI .i64 n=n:=by
 exact IntWalk.i64_in _ ⟨h1,h2⟩
theorem at_get {α:Type} {l:List α} {i:Nat} {x:α} (h:l[i]? = some x):at? l (i:Int)=some x:=by
 simp [at?,h]
theorem byte_get {s:List UInt8} {i:Nat} {b:UInt8} (h:s[i]? = some b):at? s (i:Int)=some b:=at_get h
theorem drop_get {α:Type} {l:List α} {i:Nat} {x:α} (h:l[i]? = some x):l.drop i=x::l.drop (i+1):=by
 obtain ⟨h1,h2⟩:=List.getElem?_eq_some_iff.1 h
 rw [List.drop_eq_getElem_cons h1,h2]
structure Col where
 nm:List UInt8
 kd:Int
 nl:Bool
 df:Val
structure Fgn where
 nm:List UInt8
 cols:List (List UInt8)
 tb:List UInt8
structure Idx where
 nm:List UInt8
 cols:List (List UInt8)
 uq:Bool
structure Tbl where
 nm:List UInt8
 cols:List Col
 key:List (List UInt8)
 fgn:List Fgn
 idx:List Idx
abbrev SLs (l:List (List UInt8)):List (List AV):=l.map fun s=>[AV.str s]
def colC (c:Col):List AV:=[.str c.nm,.int .i64 c.kd,.bool c.nl,.int .i64 c.df.k,.int .i64 c.df.n,.str c.df.s]
def fgnC (f:Fgn):List AV:=[.str f.nm,.rows (SLs f.cols),.str f.tb]
def idxC (x:Idx):List AV:=[.str x.nm,.rows (SLs x.cols),.bool x.uq]
def tblC (t:Tbl):List AV:=[.str t.nm,.rows (t.cols.map colC),.rows (SLs t.key),.rows (t.fgn.map fgnC),.rows (t.idx.map idxC)]
abbrev schC (ts:List Tbl):AV:=.agg [.rows (ts.map tblC)]
def evE (e:Nat→Int):Nat→Nat→Int
 | _,0=>0
 | j,m+1=>if e j=0 then evE e (j+1) m else e j
def orE (a b:Int):Int:=if a=0 then b else a
def ixN (n:List UInt8):List (List UInt8)→Nat→Int
 | [],_=>-1
 | m::r,i=>if m=n then (i:Int) else ixN n r (i+1)
theorem ixN_lt (n:List UInt8):∀ (l:List (List UInt8)) (i:Nat),ixN n l i < ((i+l.length:Nat):Int)
 | [],i=>by simp [ixN];omega
 | m::r,i=>by
  unfold ixN
  split
  ·simp only [List.length_cons];omega
  ·have:=ixN_lt n r (i+1)
   simp only [List.length_cons] at this ⊢
   omega
theorem ixN_ge (n:List UInt8):∀ (l:List (List UInt8)) (i:Nat),ixN n l i=-1∨(i:Int)≤ixN n l i
 | [],i=>.inl rfl
 | m::r,i=>by
  unfold ixN
  split
  ·exact .inr (Int.le_refl _)
  ·rcases ixN_ge n r (i+1) with h | h
   ·exact .inl h
   ·exact .inr (by omega)
theorem ixN_mem (n:List UInt8):∀ (l:List (List UInt8)) (i:Nat),ixN n l i=-1↔n∉l
 | [],i=>by simp [ixN]
 | m::r,i=>by
  unfold ixN
  split
  ·rename_i h;subst h;simp
  ·rename_i h
   rw [ixN_mem n r (i+1)]
   simp [show ¬n=m from fun e=>h e.symm]
theorem ixN_take (n:List UInt8):∀ (l:List (List UInt8)) (i k:Nat),n∈l→(ixN n l i < ((i+k:Nat):Int)↔n∈l.take k)
 | [],i,k,h=>by simp at h
 | m::r,i,0,h=>by
  simp only [Nat.add_zero,List.take_zero,List.not_mem_nil,iff_false,Int.not_lt]
  rcases ixN_ge n (m::r) i with h1 | h1
  ·exact absurd h ((ixN_mem n _ _).1 h1)
  ·exact h1
 | m::r,i,k+1,h=>by
  unfold ixN
  split
  ·rename_i e;subst e;simp;omega
  ·rename_i e
   have hr:n∈r:=by
    rcases List.mem_cons.1 h with h | h
    ·exact absurd h.symm e
    ·exact h
   rw [show i+(k+1)=(i+1)+k by omega,ixN_take n r (i+1) k hr]
   simp [show ¬n=m from fun e'=>e e'.symm]
def chB (o:List UInt8) (c:UInt8):Bool:=(decide (97≤c.toNat)&&decide (c.toNat≤122))||(decide (48≤c.toNat)&&decide (c.toNat≤57))||o.contains c
def nameB (o:List UInt8) (m:Nat) (s:List UInt8):Bool:=match s with
 | []=>false
 | c::_=>s.all (chB o)&&decide (s.length≤m)&&(decide (97≤c.toNat)&&decide (c.toNat≤122))
abbrev tallB (s:List UInt8):Bool:=nameB [95] 40 s
def ordE (s b:List UInt8) (first:Bool):Int:=if tallB s=false then 5 else if first=false∧(Op.bytesLess s b=true∨s=b) then 7 else 0
abbrev I (n:Int):AV:=.int .i64 n
attribute [go_sem] callIn conv convL reach posOf sub renB renL ren back afterIn outer List.contains_cons List.contains_nil List.map_cons List.map_nil List.take_length ite_self
def Tells (h:Heap) (f:AV) (e:Nat→Int) (n:Nat):Prop:=∀ i,i < n→callV nlA (R K) h [I (i:Int)] f=some (I (e i),h)
theorem l_every (f:AV) (h:Heap) (e:Nat→Int) (n:Nat) (hn:n≤1000000) (hu:under h.length (locsH h)=true) (hc:Tells h f e n) (ks:List It):∀ (q j:Nat) (i:Int) (Bo:Code),Loop Tryz.f54 0 Bo→i=(j:Int)→n=j+q →
  RL K (.run 54 h.length (.code Bo::.lp Bo (some ([1,7,8],[])) h.length::.blk 0 h.length::ks) [(1,f),(7,I (n:Int)),(8,I i)] h) =
  if evE e j q=0 then R K (.run 54 h.length ks [] h) else some (I (evE e j q),h)
 | 0,j,i,Bo,hB,hi,hq=>by
  subst hi
  have d:¬(j:Int) < (n:Int):=by omega
  unfold Loop at hB
  simp -implicitDefEqProofs only [go_sem,simprocAttr,Tryz.f54,loopOf] at hB
  subst hB
  rw [RL_eq]
  simp -implicitDefEqProofs only [go_sem,simprocAttr,d,evE]
 | q+1,j,i,Bo,hB,hi,hq=>by
  subst hi
  have hB':=hB
  have d:(j:Int) < (n:Int):=by omega
  have h7:wrapI .i64 ((j:Int)+1)=((j+1:Nat):Int):=by rw [wrap_id (by omega) (by omega)];omega
  have hx:=hc j (by omega)
  have ih:=l_every f h e n hn hu hc ks q (j+1) _ Bo hB' rfl (by omega)
  by_cases hk:e j=0
  ·have e1:evE e j (q+1)=evE e (j+1) q:=by simp only [evE];rw [if_pos hk]
   rw [e1]
   unfold Loop at hB
   simp -implicitDefEqProofs only [go_sem,simprocAttr,Tryz.f54,loopOf] at hB
   subst hB
   rw [RL_eq]
   simp -implicitDefEqProofs only [go_sem,simprocAttr,d,h7,hx,hk,bne]
   rw [ih]
  ·have e1:evE e j (q+1)=e j:=by simp only [evE];rw [if_neg hk]
   have dk:(e j==0)=false:=by simpa using hk
   rw [e1,if_neg hk]
   unfold Loop at hB
   simp -implicitDefEqProofs only [go_sem,simprocAttr,Tryz.f54,loopOf] at hB
   subst hB
   rw [RL_eq]
   simp -implicitDefEqProofs only [go_sem,simprocAttr,d,h7,hx,dk,bne,hu]
theorem c_every (f:AV) (h:Heap) (e:Nat→Int) (n:Nat) (hn:n≤1000000) (hu:under h.length (locsH h)=true) (hc:Tells h f e n):R K (.call 54 [I (n:Int),f] h)=some (I (evE e 0 n),h):=by
 have lk:=fun ks B hB=>l_every f h e n hn hu hc ks n 0 0 B hB rfl (by omega)
 rw [call_54]
 simp -implicitDefEqProofs only [go_sem,simprocAttr,Tryz.f54]
 rw [lk _ _ ?_]
 ·split
  ·rename_i h0
   rw [h0]
   simp -implicitDefEqProofs only [go_sem,simprocAttr,hu]
  ·rfl
 ·rfl
theorem ix_neg (b:UInt8):∀ o:List UInt8,decide (Lib.indexByte o b < 0)=!o.contains b
 | []=>rfl
 | c::o=>by
  have ih:=ix_neg b o
  have hge:=Lib.indexByte_ge o b
  unfold Lib.indexByte
  rw [List.contains_cons]
  by_cases h:c=b
  ·subst h;simp
  ·have h1:(c==b)=false:=by simpa using h
   have h2:(b==c)=false:=by simpa using fun e:b=c=>h e.symm
   rw [h1,h2]
   simp only [Bool.false_eq_true,if_false,Bool.false_or]
   rw [←ih]
   by_cases h3:Lib.indexByte o b=-1
   ·simp [h3]
   ·have h4:(Lib.indexByte o b==-1)=false:=by simpa using h3
    rw [h4]
    simp only [Bool.false_eq_true,if_false]
    congr 1
    simp only [eq_iff_iff]
    omega
theorem byte_back (b:UInt8):((b.toNat:Int).toNat.toUInt8)=b:=by simp
theorem p_IndexByte (o:List UInt8) (b:UInt8):R K (.call 279 [.str o,.int .u8 (b.toNat:Int)] [])=some (I (Lib.indexByte o b),[]):=R_prim (by
 show some (AV.int .i64 (Lib.indexByte o ((b.toNat:Int).toNat.toUInt8)))=_
 rw [byte_back])
theorem chB_eq (o:List UInt8) (c:UInt8):chB o c=!((decide ((c.toNat:Int) < 97)||decide ((c.toNat:Int) > 122))&&(decide ((c.toNat:Int) < 48)||decide ((c.toNat:Int) > 57))&&decide (Lib.indexByte o c < 0)):=by
 rw [ix_neg]
 unfold chB
 rw [Bool.eq_iff_iff]
 cases o.contains c<;>simp<;>omega
theorem l_consists (s o:List UInt8) (hs:s.length≤100000000) (ks:List It):∀ (q j:Nat) (i:Int) (Bo:Code),Loop Tryz.f171 0 Bo→i=(j:Int)→s.length=j+q →
  RL K (.run 171 0 (.code Bo::.lp Bo (some ([0,1,8,9],[])) 0::.blk 0 0::ks) [(0,.str s),(1,.str o),(8,I (s.length:Int)),(9,I i)] []) =
  if (s.drop j).all (chB o)=true then R K (.run 171 0 ks [(0,.str s)] []) else some (.bool false,[])
 | 0,j,i,Bo,hB,hi,hq=>by
  subst hi
  have d:¬(j:Int) < (s.length:Int):=by omega
  rw [List.drop_of_length_le (by omega),List.all_nil,if_pos rfl]
  unfold Loop at hB
  simp -implicitDefEqProofs only [go_sem,simprocAttr,Tryz.f171,loopOf] at hB
  subst hB
  rw [RL_eq]
  simp -implicitDefEqProofs only [go_sem,simprocAttr,d]
 | q+1,j,i,Bo,hB,hi,hq=>by
  subst hi
  have hB':=hB
  have d:(j:Int) < (s.length:Int):=by omega
  have h7:wrapI .i64 ((j:Int)+1)=((j+1:Nat):Int):=by rw [wrap_id (by omega) (by omega)];omega
  obtain ⟨b,hb⟩:∃ b,s[j]? = some b:=⟨s[j]'(by omega),List.getElem?_eq_getElem _⟩
  have hg:=byte_get hb
  have ih:=l_consists s o hs ks q (j+1) _ Bo hB' rfl (by omega)
  rw [drop_get hb,List.all_cons]
  have hx:=p_IndexByte o b
  rw [chB_eq]
  unfold Loop at hB
  simp -implicitDefEqProofs only [go_sem,simprocAttr,Tryz.f171,loopOf] at hB
  subst hB
  rw [RL_eq]
  simp -implicitDefEqProofs only [go_sem,simprocAttr,d,h7,hg,hx]
  repeat' ((first | apply split_cond | apply split_yes | apply split_no)<;>intro hc<;>simp -implicitDefEqProofs only [hc,go_sem,simprocAttr,d,h7,hg,hx])
  all_goals (try rw [ih])
  all_goals simp_all
theorem c_consists (s o:List UInt8) (hs:s.length≤100000000):R K (.call 171 [.str s,.str o] [])=some (.bool (s.all (chB o)&&!(s==[])),[]):=by
 have lk:=fun ks B hB=>l_consists s o hs ks s.length 0 0 B hB rfl (by omega)
 simp only [List.drop_zero] at lk
 rw [call_171]
 simp -implicitDefEqProofs only [go_sem,simprocAttr,Tryz.f171]
 rw [lk _ _ ?_]
 ·split
  ·rename_i h0
   rw [h0]
   simp -implicitDefEqProofs only [go_sem,simprocAttr,bne]
  ·rename_i h0
   rw [Bool.not_eq_true] at h0
   rw [h0];rfl
 ·rfl
def smallB (c:UInt8):Bool:=decide (97≤c.toNat)&&decide (c.toNat≤122)
theorem c_small (c:UInt8):R K (.call 291 [.int .u8 (c.toNat:Int)] [])=some (.bool (smallB c),[]):=by
 have h1:decide ((97:Int)≤(c.toNat:Int))=decide (97≤c.toNat):=by congr 1;simp only [eq_iff_iff];omega
 have h2:decide ((c.toNat:Int)≤122)=decide (c.toNat≤122):=by congr 1;simp only [eq_iff_iff];omega
 rw [call_291]
 simp -implicitDefEqProofs only [go_sem,simprocAttr,Tryz.f291]
 repeat' ((first | apply split_cond | apply split_yes | apply split_no)<;>intro hc<;>simp -implicitDefEqProofs only [hc,go_sem,simprocAttr])
 all_goals (unfold smallB;simp_all<;>omega)
theorem c_isTall (s:List UInt8) (hs:s.length≤100000000):R K (.call 196 [.str s] [])=some (.bool (tallB s),[]):=by
 have hc:=c_consists s [95] hs
 cases s with
 | nil =>
  have h0:(([]:List UInt8).all (chB [95])&&!(([]:List UInt8)==[]))=false:=rfl
  rw [h0] at hc
  rw [call_196]
  simp -implicitDefEqProofs only [go_sem,simprocAttr,Tryz.f196,hc]
  rfl
 | cons c r =>
  have h0:((c::r:List UInt8)==[])=false:=rfl
  rw [h0] at hc
  simp only [Bool.not_false,Bool.and_true] at hc
  have hg:at? (c::r) (0:Int)=some c:=rfl
  have hx:=c_small c
  have h2:decide (((c::r).length:Int)≤40)=decide ((c::r).length≤40):=by congr 1;simp only [eq_iff_iff];omega
  have e:tallB (c::r)=((c::r).all (chB [95])&&decide ((c::r).length≤40)&&smallB c):=rfl
  rw [e]
  generalize (c::r).all (chB [95])=x at hc ⊢
  rw [call_196]
  simp -implicitDefEqProofs only [go_sem,simprocAttr,Tryz.f196,hc,hg,hx]
  repeat' ((first | apply split_cond | apply split_yes | apply split_no)<;>intro hc<;>simp -implicitDefEqProofs only [hc,go_sem,simprocAttr,hc,hg,hx])
  all_goals (simp only [decide_eq_true_eq,decide_eq_false_iff_not] at hc)
  ·have h9:r.length≤39:=by omega
   simp [h9]
  ·have h9:¬r.length≤39:=by omega
   simp [h9]
theorem dropW_nil {p:UInt8→Bool}:∀ {l:List UInt8},l.dropWhile p=[]↔l.all p=true
 | []=>by simp
 | b::l=>by
  rw [List.dropWhile_cons,List.all_cons]
  cases p b with
  | true=>simp only [if_true,Bool.true_and];exact dropW_nil
  | false=>simp
theorem dropW_head {p:UInt8→Bool}:∀ {l:List UInt8} {c:UInt8} {r:List UInt8},l.dropWhile p=c::r→p c=false
 | [],_,_,h=>by simp at h
 | b::l,c,r,h=>by
  rw [List.dropWhile_cons] at h
  cases hb:p b with
  | true=>rw [hb,if_pos rfl] at h;exact dropW_head h
  | false =>
   rw [hb,if_neg (by simp)] at h
   rw [(List.cons.inj h).1] at hb;exact hb
theorem trim_nil (s cs:List UInt8):Lib.trimS s cs=[]↔s.all (cs.contains ·)=true:=by
 unfold Lib.trimS Lib.trimLeftS Lib.trimRightS
 rw [dropW_nil]
 cases hd:s.reverse.dropWhile (cs.contains ·) with
 | nil =>
  have:=dropW_nil.1 hd
  rw [List.all_reverse] at this
  simp only [List.reverse_nil,List.all_nil,true_iff]
  exact this
 | cons c r =>
  have hc:=dropW_head hd
  have hm:c∈s:=by
   have:c∈s.reverse.dropWhile (cs.contains ·):=by rw [hd];simp
   exact List.mem_reverse.1 ((List.dropWhile_sublist _).mem this)
  constructor
  ·intro h
   rw [List.all_reverse] at h
   have:=List.all_eq_true.1 h c (by simp)
   rw [hc] at this;simp at this
  ·intro h
   have:=List.all_eq_true.1 h c hm
   rw [hc] at this;simp at this
def lettB:List UInt8:=[97,98,99,100,101,102,103,104,105,106,107,108,109,110,111,112,113,114,115,116,117,118,119,120,121,122,48,49,50,51,52,53,54,55,56,57,95]
theorem lettB_in (c:UInt8):lettB.contains c=chB [95] c:=by
 have h:∀ n:Fin 256,lettB.contains (UInt8.ofNat n.val)=chB [95] (UInt8.ofNat n.val):=by decide +kernel
 have:=h ⟨c.toNat,c.toNat_lt⟩
 simpa using this
def within (n a b:Int):Bool:=decide (a≤n)&&decide (n≤b)
theorem r_within (n a b:Int):R K (.call 209 [.int .i64 n,.int .i64 a,.int .i64 b] [])=some (.bool (within n a b),[]):=by
 rw [call_209]
 simp -implicitDefEqProofs only [go_sem,simprocAttr,Tryz.f209]
 repeat' ((first | apply split_cond | apply split_yes | apply split_no)<;>intro hc<;>simp -implicitDefEqProofs only [hc,go_sem,simprocAttr])
 all_goals simp [within, *]
theorem r_named (s:List UInt8) (hs:s.length≤100000000):R K (.call 119 [.str s,.bool true] [])=some (.bool (tallB s),[]):=by
 have hp:R K (.call 87 [.str s,.str lettB] [])=some (.str (Lib.trimS s lettB),[]):=R_prim (by
  show pTrim [.str s,.str lettB]=_
  simp only [pTrim]
  have h1:decide (s.length≤9223372036854775807)=true:=decide_eq_true (by omega)
  have h2:(decide (lettB.length < 4294967281)&&ascii lettB)=true:=by decide
  rw [if_pos (by rw [h1,h2];rfl)])
 have he:(Lib.trimS s lettB==[])=s.all (chB [95]):=by
  have h:=trim_nil s lettB
  have e:(fun c=>lettB.contains c)=chB [95]:=funext lettB_in
  rw [e] at h
  rw [Bool.eq_iff_iff,beq_iff_eq];exact h
 unfold lettB at hp he
 cases s with
 | nil =>
  rw [call_119]
  simp -implicitDefEqProofs only [go_sem,simprocAttr,Tryz.f119,bne,beq_self_eq_true]
  rfl
 | cons c r =>
  have hg:at? (c::r) (0:Int)=some c:=rfl
  have h0:((c::r:List UInt8)==[])=false:=rfl
  have e:tallB (c::r)=((c::r).all (chB [95])&&decide ((c::r).length≤40)&&(decide (97≤c.toNat)&&decide (c.toNat≤122))):=rfl
  have hw:wrapI .i64 ((c.toNat:Int))=(c.toNat:Int):=wrap_id (by omega) (by have:=c.toNat_lt;omega)
  have hx:=r_within (c.toNat:Int) 97 122
  have hx2:within (c.toNat:Int) 97 122=(decide (97≤c.toNat)&&decide (c.toNat≤122)):=by
   unfold within
   rw [Bool.eq_iff_iff];simp;omega
  rw [hx2] at hx
  rw [e]
  generalize (c::r).all (chB [95])=x at he ⊢
  have hm:(37≤strMax)=True:=eq_true (by decide)
  rw [call_119]
  simp -implicitDefEqProofs only [go_sem,simprocAttr,Tryz.f119,hp,he,hg,hx,hw,h0,bne,hm]
  repeat' ((first | apply split_cond | apply split_yes | apply split_no)<;>intro hc<;>simp -implicitDefEqProofs only [hc,go_sem,simprocAttr,hp,he,hg,hx,hw,h0,bne,hm])
  ·rename_i hl
   simp only [decide_eq_true_eq] at hl
   have h9:r.length≤39:=by omega
   simp [h9]
  ·simp only [decide_eq_false_iff_not] at hc
   have h9:¬r.length≤39:=by omega
   simp [h9]
theorem leq_bytes (s b:List UInt8):(Op.bytesLess s b||s==b)=decide (Op.bytesLess s b=true∨s=b):=by
 rw [Bool.eq_iff_iff];simp
theorem r_ordered (s b:List UInt8) (first:Bool) (hs:s.length≤100000000):R K (.call 64 [.str s,.str b,.bool first] [])=some (I (ordE s b first),[]):=by
 have hn:=r_named s hs
 unfold ordE
 generalize tallB s=x at hn ⊢
 have hl:=leq_bytes s b
 rw [call_64]
 simp -implicitDefEqProofs only [go_sem,simprocAttr,Tryz.f64,hn,hl]
 repeat' ((first | apply split_cond | apply split_yes | apply split_no)<;>intro hc<;>simp -implicitDefEqProofs only [hc,go_sem,simprocAttr,hn,hl])
 all_goals simp_all
theorem c_tallOrder (s b:List UInt8) (i:Nat) (f:AV) (h:Heap) (hs:s.length≤100000000) (hu:under h.length (locsH h)=true) (hc:0 < i→callV nlA (R K) h [] f=some (.str b,h)):R K (.call 99 [.str s,I (i:Int),f] h)=some (I (ordE s b (i==0)),h):=by
 have hn:=c_isTall s hs
 unfold ordE
 generalize tallB s=x at hn ⊢
 have hl:=leq_bytes s b
 cases i with
 | zero =>
  have d:((0:Nat):Int)=0:=rfl
  rw [call_99]
  simp -implicitDefEqProofs only [go_sem,simprocAttr,Tryz.f99,hn,hu,d]
  repeat' ((first | apply split_cond | apply split_yes | apply split_no)<;>intro hc<;>simp -implicitDefEqProofs only [hc,go_sem,simprocAttr,hn,hu,d])
  all_goals simp_all
 | succ i =>
  have hb:=hc (by omega)
  have d:(0:Int) < ((i+1:Nat):Int):=by omega
  have d2:(((i+1:Nat):Int) > 0)=True:=eq_true d
  rw [call_99]
  simp -implicitDefEqProofs only [go_sem,simprocAttr,Tryz.f99,hn,hu,hb,hl,d,d2]
  repeat' ((first | apply split_cond | apply split_yes | apply split_no)<;>intro hc<;>simp -implicitDefEqProofs only [hc,go_sem,simprocAttr,hn,hu,hb,hl,d,d2])
  all_goals simp_all
abbrev colA (c:Col):AV:=.agg (colC c)
abbrev tblA (t:Tbl):AV:=.agg (tblC t)
theorem col_get {l:List Col} {j:Nat} {c:Col} (h:l[j]? = some c):at? (l.map colC) (j:Int)=some (colC c):=at_get (by simp [h])
theorem tbl_get {l:List Tbl} {j:Nat} {c:Tbl} (h:l[j]? = some c):at? (l.map tblC) (j:Int)=some (tblC c):=at_get (by simp [h])
theorem l_ixCol (f:AV) (h:Heap) (n:List UInt8) (hu:under h.length (locsH h)=true) (cols:List Col) (hl:cols.length≤1000000) (hc:∀ c:Col,callV nlA (R K) h [colA c] f=some (.bool (c.nm==n),h)) (ks:List It) :
  ∀ (q j:Nat) (i:Int) (Bo:Code),Loop Tryz.f42 0 Bo→i=(j:Int)→cols.length=j+q →
  RL K (.run 42 h.length (.code Bo::.lp Bo (some ([0,1,7,8],[])) h.length::.blk 0 h.length::ks) [(0,.rows (cols.map colC)),(1,f),(7,I (cols.length:Int)),(8,I i)] h) =
  if ixN n ((cols.drop j).map (·.nm)) j=-1 then R K (.run 42 h.length ks [] h) else some (I (ixN n ((cols.drop j).map (·.nm)) j),h)
 | 0,j,i,Bo,hB,hi,hq=>by
  subst hi
  have d:¬(j:Int) < (cols.length:Int):=by omega
  rw [List.drop_of_length_le (by omega),List.map_nil,show ixN n [] j=-1 from rfl,if_pos rfl]
  unfold Loop at hB
  simp -implicitDefEqProofs only [go_sem,simprocAttr,Tryz.f42,loopOf] at hB
  subst hB
  rw [RL_eq]
  simp -implicitDefEqProofs only [go_sem,simprocAttr,d]
 | q+1,j,i,Bo,hB,hi,hq=>by
  subst hi
  have hB':=hB
  have d:(j:Int) < (cols.length:Int):=by omega
  have h7:wrapI .i64 ((j:Int)+1)=((j+1:Nat):Int):=by rw [wrap_id (by omega) (by omega)];omega
  obtain ⟨c,hcj⟩:∃ c,cols[j]? = some c:=⟨cols[j]'(by omega),List.getElem?_eq_getElem _⟩
  have hg:=col_get hcj
  have hx:=hc c
  have ih:=l_ixCol f h n hu cols hl hc ks q (j+1) _ Bo hB' rfl (by omega)
  rw [drop_get hcj,List.map_cons]
  simp only [colA,colC] at hg hx
  by_cases hk:c.nm=n
  ·have e1:ixN n (c.nm::(cols.drop (j+1)).map (·.nm)) j=(j:Int):=by simp only [ixN];rw [if_pos hk]
   have dk:(c.nm==n)=true:=by simpa using hk
   rw [dk] at hx
   rw [e1,if_neg (by omega)]
   unfold Loop at hB
   simp -implicitDefEqProofs only [go_sem,simprocAttr,Tryz.f42,loopOf] at hB
   subst hB
   rw [RL_eq]
   simp -implicitDefEqProofs only [go_sem,simprocAttr,d,h7,hg,hx,hu]
  ·have e1:ixN n (c.nm::(cols.drop (j+1)).map (·.nm)) j=ixN n ((cols.drop (j+1)).map (·.nm)) (j+1):=by conv=>lhs;simp only [ixN];rw [if_neg hk]
   have dk:(c.nm==n)=false:=by simpa using hk
   rw [dk] at hx
   rw [e1]
   unfold Loop at hB
   simp -implicitDefEqProofs only [go_sem,simprocAttr,Tryz.f42,loopOf] at hB
   subst hB
   rw [RL_eq]
   simp -implicitDefEqProofs only [go_sem,simprocAttr,d,h7,hg,hx,hu]
   rw [ih]
theorem c_ixCol (f:AV) (h:Heap) (n:List UInt8) (hu:under h.length (locsH h)=true) (cols:List Col) (hl:cols.length≤1000000) (hc:∀ c:Col,callV nlA (R K) h [colA c] f=some (.bool (c.nm==n),h)) :
  R K (.call 42 [.rows (cols.map colC),f] h)=some (I (ixN n (cols.map (·.nm)) 0),h):=by
 have lk:=fun ks B hB=>l_ixCol f h n hu cols hl hc ks cols.length 0 0 B hB rfl (by omega)
 simp only [List.drop_zero] at lk
 rw [call_42]
 simp -implicitDefEqProofs only [go_sem,simprocAttr,Tryz.f42,List.length_map]
 rw [lk _ _ ?_]
 ·split
  ·rename_i h0
   rw [h0]
   simp -implicitDefEqProofs only [go_sem,simprocAttr,hu]
  ·rfl
 ·rfl
theorem l_ixTbl (f:AV) (h:Heap) (n:List UInt8) (hu:under h.length (locsH h)=true) (cols:List Tbl) (hl:cols.length≤1000000) (hc:∀ c:Tbl,callV nlA (R K) h [tblA c] f=some (.bool (c.nm==n),h)) (ks:List It) :
  ∀ (q j:Nat) (i:Int) (Bo:Code),Loop Tryz.f93 0 Bo→i=(j:Int)→cols.length=j+q →
  RL K (.run 93 h.length (.code Bo::.lp Bo (some ([0,1,7,8],[])) h.length::.blk 0 h.length::ks) [(0,.rows (cols.map tblC)),(1,f),(7,I (cols.length:Int)),(8,I i)] h) =
  if ixN n ((cols.drop j).map (·.nm)) j=-1 then R K (.run 93 h.length ks [] h) else some (I (ixN n ((cols.drop j).map (·.nm)) j),h)
 | 0,j,i,Bo,hB,hi,hq=>by
  subst hi
  have d:¬(j:Int) < (cols.length:Int):=by omega
  rw [List.drop_of_length_le (by omega),List.map_nil,show ixN n [] j=-1 from rfl,if_pos rfl]
  unfold Loop at hB
  simp -implicitDefEqProofs only [go_sem,simprocAttr,Tryz.f93,loopOf] at hB
  subst hB
  rw [RL_eq]
  simp -implicitDefEqProofs only [go_sem,simprocAttr,d]
 | q+1,j,i,Bo,hB,hi,hq=>by
  subst hi
  have hB':=hB
  have d:(j:Int) < (cols.length:Int):=by omega
  have h7:wrapI .i64 ((j:Int)+1)=((j+1:Nat):Int):=by rw [wrap_id (by omega) (by omega)];omega
  obtain ⟨c,hcj⟩:∃ c,cols[j]? = some c:=⟨cols[j]'(by omega),List.getElem?_eq_getElem _⟩
  have hg:=tbl_get hcj
  have hx:=hc c
  have ih:=l_ixTbl f h n hu cols hl hc ks q (j+1) _ Bo hB' rfl (by omega)
  rw [drop_get hcj,List.map_cons]
  simp only [tblA,tblC] at hg hx
  by_cases hk:c.nm=n
  ·have e1:ixN n (c.nm::(cols.drop (j+1)).map (·.nm)) j=(j:Int):=by simp only [ixN];rw [if_pos hk]
   have dk:(c.nm==n)=true:=by simpa using hk
   rw [dk] at hx
   rw [e1,if_neg (by omega)]
   unfold Loop at hB
   simp -implicitDefEqProofs only [go_sem,simprocAttr,Tryz.f93,loopOf] at hB
   subst hB
   rw [RL_eq]
   simp -implicitDefEqProofs only [go_sem,simprocAttr,d,h7,hg,hx,hu]
  ·have e1:ixN n (c.nm::(cols.drop (j+1)).map (·.nm)) j=ixN n ((cols.drop (j+1)).map (·.nm)) (j+1):=by conv=>lhs;simp only [ixN];rw [if_neg hk]
   have dk:(c.nm==n)=false:=by simpa using hk
   rw [dk] at hx
   rw [e1]
   unfold Loop at hB
   simp -implicitDefEqProofs only [go_sem,simprocAttr,Tryz.f93,loopOf] at hB
   subst hB
   rw [RL_eq]
   simp -implicitDefEqProofs only [go_sem,simprocAttr,d,h7,hg,hx,hu]
   rw [ih]
theorem c_ixTbl (f:AV) (h:Heap) (n:List UInt8) (hu:under h.length (locsH h)=true) (cols:List Tbl) (hl:cols.length≤1000000) (hc:∀ c:Tbl,callV nlA (R K) h [tblA c] f=some (.bool (c.nm==n),h)) :
  R K (.call 93 [.rows (cols.map tblC),f] h)=some (I (ixN n (cols.map (·.nm)) 0),h):=by
 have lk:=fun ks B hB=>l_ixTbl f h n hu cols hl hc ks cols.length 0 0 B hB rfl (by omega)
 simp only [List.drop_zero] at lk
 rw [call_93]
 simp -implicitDefEqProofs only [go_sem,simprocAttr,Tryz.f93,List.length_map]
 rw [lk _ _ ?_]
 ·split
  ·rename_i h0
   rw [h0]
   simp -implicitDefEqProofs only [go_sem,simprocAttr,hu]
  ·rfl
 ·rfl
abbrev nmH (n:List UInt8):Heap:=[.cells [.str n]]
theorem k_column (n:List UInt8) (c:Col):R K (.call 202 [colA c,.ptr 0 0] (nmH n))=some (.bool (c.nm==n),nmH n):=by
 rw [call_202]
 simp -implicitDefEqProofs only [go_sem,simprocAttr,Tryz.f202,colC]
theorem k_columnR (n:List UInt8) (c:Col):R K (.call 122 [colA c,.ptr 0 0] (nmH n))=some (.bool (c.nm==n),nmH n):=by
 rw [call_122]
 simp -implicitDefEqProofs only [go_sem,simprocAttr,Tryz.f122,colC]
theorem k_table (n:List UInt8) (t:Tbl):R K (.call 201 [tblA t,.ptr 0 0] (nmH n))=some (.bool (t.nm==n),nmH n):=by
 rw [call_201]
 simp -implicitDefEqProofs only [go_sem,simprocAttr,Tryz.f201,tblC]
theorem v_column (n:List UInt8) (c:Col):callV nlA (R K) (nmH n) [colA c] (.fn 202 [.ptr 0 0])=some (.bool (c.nm==n),nmH n):=by
 have hk:=k_column n c
 simp only [colA,colC] at hk ⊢
 simp -implicitDefEqProofs only [go_sem,simprocAttr,hk]
theorem v_columnR (n:List UInt8) (c:Col):callV nlA (R K) (nmH n) [colA c] (.fn 122 [.ptr 0 0])=some (.bool (c.nm==n),nmH n):=by
 have hk:=k_columnR n c
 simp only [colA,colC] at hk ⊢
 simp -implicitDefEqProofs only [go_sem,simprocAttr,hk]
theorem k_tableR (n:List UInt8) (t:Tbl):R K (.call 94 [tblA t,.ptr 0 0] (nmH n))=some (.bool (t.nm==n),nmH n):=by
 rw [call_94]
 simp -implicitDefEqProofs only [go_sem,simprocAttr,Tryz.f94,tblC]
theorem v_table (n:List UInt8) (t:Tbl):callV nlA (R K) (nmH n) [tblA t] (.fn 201 [.ptr 0 0])=some (.bool (t.nm==n),nmH n):=by
 have hk:=k_table n t
 simp only [tblA,tblC] at hk ⊢
 simp -implicitDefEqProofs only [go_sem,simprocAttr,hk]
theorem v_tableR (n:List UInt8) (t:Tbl):callV nlA (R K) (nmH n) [tblA t] (.fn 94 [.ptr 0 0])=some (.bool (t.nm==n),nmH n):=by
 have hk:=k_tableR n t
 simp only [tblA,tblC] at hk ⊢
 simp -implicitDefEqProofs only [go_sem,simprocAttr,hk]
theorem nmH_fits (n:List UInt8):under (nmH n).length (locsH (nmH n))=true:=rfl
theorem c_columnAt (t:Tbl) (n:List UInt8) (hl:t.cols.length≤1000000):R K (.call 115 [tblA t,.str n] [])=some (I (ixN n (t.cols.map (·.nm)) 0),[]):=by
 have hi:=c_ixCol (.fn 202 [.ptr 0 0]) (nmH n) n (nmH_fits n) t.cols hl (v_column n)
 rw [call_115]
 simp -implicitDefEqProofs only [go_sem,simprocAttr,Tryz.f115,tblC,hi]
theorem r_columnAt (t:Tbl) (n:List UInt8) (hl:t.cols.length≤1000000):R K (.call 66 [tblA t,.str n] [])=some (I (ixN n (t.cols.map (·.nm)) 0),[]):=by
 have hi:=c_ixCol (.fn 122 [.ptr 0 0]) (nmH n) n (nmH_fits n) t.cols hl (v_columnR n)
 rw [call_66]
 simp -implicitDefEqProofs only [go_sem,simprocAttr,Tryz.f66,tblC,hi]
theorem c_tableAt (x:List Tbl) (n:List UInt8) (hl:x.length≤1000000):R K (.call 113 [schC x,.str n] [])=some (I (ixN n (x.map (·.nm)) 0),[]):=by
 have hi:=c_ixTbl (.fn 201 [.ptr 0 0]) (nmH n) n (nmH_fits n) x hl (v_table n)
 rw [call_113]
 simp -implicitDefEqProofs only [go_sem,simprocAttr,Tryz.f113,hi]
theorem r_TableAt (x:List Tbl) (n:List UInt8) (hl:x.length≤1000000):R K (.call 47 [schC x,.str n] [])=some (I (ixN n (x.map (·.nm)) 0),[]):=by
 have hi:=c_ixTbl (.fn 94 [.ptr 0 0]) (nmH n) n (nmH_fits n) x hl (v_tableR n)
 rw [call_47]
 simp -implicitDefEqProofs only [go_sem,simprocAttr,Tryz.f47,hi]
abbrev V (k n:Int) (s:List UInt8):AV:=.agg [.int .i64 k,.int .i64 n,.str s]
theorem next_id {i n:Nat} (h:i < n) (hn:n≤9223372036854775807):wrapI .i64 ((i:Int)+1)=((i+1:Nat):Int):=by rw [wrap_id (by omega) (by omega)];rfl
theorem some_at {α:Type} {l:List α} {i:Nat} (h:i < l.length):∃ x,l[i]? = some x:=⟨l[i],List.getElem?_eq_getElem h⟩
theorem c_within (n a b:Int):R K (.call 292 [.int .i64 n,.int .i64 a,.int .i64 b] [])=some (.bool (within n a b),[]):=by
 rw [call_292]
 simp -implicitDefEqProofs only [go_sem,simprocAttr,Tryz.f292]
 repeat' ((first | apply split_cond | apply split_yes | apply split_no)<;>intro hc<;>simp -implicitDefEqProofs only [hc,go_sem,simprocAttr])
 all_goals simp [within, *]
theorem c_within2 (n a b:Int):R K (.call 198 [.int .i64 n,.int .i64 a,.int .i64 b] [])=some (.bool (within n a b),[]):=by
 rw [call_198]
 simp -implicitDefEqProofs only [go_sem,simprocAttr,Tryz.f198]
 repeat' ((first | apply split_cond | apply split_yes | apply split_no)<;>intro hc<;>simp -implicitDefEqProofs only [hc,go_sem,simprocAttr])
 all_goals simp [within, *]
def formS (v:Val):Bool:=if v.k=0 then v.n==0&&v.s==[] else if v.k=3 then v.n==0 else within v.k 1 4&&v.s==[]
theorem c_form (k n:Int) (s:List UInt8):R K (.call 293 [V k n s] [])=some (.bool (formS ⟨k,n,s⟩),[]):=by
 rw [call_293]
 simp -implicitDefEqProofs only [go_sem,simprocAttr,Tryz.f293,c_within]
 repeat' ((first | apply split_cond | apply split_yes | apply split_no)<;>intro hc<;>simp -implicitDefEqProofs only [hc,go_sem,simprocAttr,c_within])
 all_goals simp_all [formS]
def ok7 (s:List UInt8):Bool:=s.all fun c=>decide (32≤c.toNat)&&decide (c.toNat≤126)
theorem ok7_cons (b:UInt8) (s:List UInt8):ok7 (b::s)=(decide (32≤b.toNat)&&decide (b.toNat≤126)&&ok7 s):=by simp [ok7]
theorem l_range (k n:Int) (s:List UInt8) (hs:s.length≤100) (ks:List It):∀ (m i:Nat) (j:Int) (B:Code),Loop Tryz.f294 1 B→j=(i:Int)→s.length=i+m →
  RL K (.run 294 0 (.code B::.lp B (some ([1,23,24],[])) 1::.blk 1 1::ks) [(1,.ptr 0 0),(23,.int .i64 s.length),(24,.int .i64 j)] [.cells [.int .i64 k,.int .i64 n,.str s]]) =
  if ok7 (s.drop i)=true then R K (.run 294 0 ks [] [.cells [.int .i64 k,.int .i64 n,.str s]]) else some (.bool false,[])
 | 0,i,j,B,hB,hj,hm=>by
  subst hj
  have h1:¬((i:Int) < (s.length:Int)):=by omega
  unfold Loop at hB
  simp -implicitDefEqProofs only [go_sem,simprocAttr,Tryz.f294,loopOf] at hB
  subst hB
  rw [RL_eq]
  simp -implicitDefEqProofs only [go_sem,simprocAttr,h1]
  rw [List.drop_of_length_le (by omega)]
  rfl
 | m+1,i,j,B,hB,hj,hm=>by
  subst hj
  have h1:((i:Int) < (s.length:Int)):=by omega
  have hB':=hB
  obtain ⟨b,hb⟩:∃ b,s[i]? = some b:=⟨s[i]'(by omega),List.getElem?_eq_getElem _⟩
  have hg:=byte_get hb
  have hw:wrapI .i64 ((i:Int)+1)=((i+1:Nat):Int):=by rw [wrap_id (by omega) (by omega)];rfl
  unfold Loop at hB
  simp -implicitDefEqProofs only [go_sem,simprocAttr,Tryz.f294,loopOf] at hB
  subst hB
  rw [RL_eq]
  rw [drop_get hb]
  have ih:=l_range k n s hs ks m (i+1) _ _ hB' rfl (by omega)
  simp -implicitDefEqProofs only [go_sem,simprocAttr,h1,hg,hw]
  repeat' ((first | apply split_cond | apply split_yes | apply split_no)<;>intro hc<;>simp -implicitDefEqProofs only [hc,go_sem,simprocAttr,h1,hg,hw])
  all_goals simp only [decide_eq_true_eq,decide_eq_false_iff_not] at *
  ·have:ok7 (b::s.drop (i+1))=false:=by simp [ok7_cons];omega
   simp [this]
  ·have:ok7 (b::s.drop (i+1))=false:=by simp [ok7_cons];omega
   simp [this]
  ·have:ok7 (b::s.drop (i+1))=ok7 (s.drop (i+1)):=by
    have:32≤b.toNat∧b.toNat≤126:=by omega
    simp [ok7_cons,this]
   rw [this,ih]
def rangeS (v:Val):Bool:=if v.k=1 then within v.n 0 1 else if v.k=2 then within v.n (-999999999999999) 999999999999999 else if v.k=4 then within v.n 0 253402300799 else ok7 v.s
theorem c_range (k n:Int) (s:List UInt8) (hs:s.length≤100):R K (.call 294 [V k n s] [])=some (.bool (rangeS ⟨k,n,s⟩),[]):=by
 rw [call_294]
 simp -implicitDefEqProofs only [go_sem,simprocAttr,Tryz.f294,c_within]
 repeat' ((first | apply split_cond | apply split_yes | apply split_no)<;>intro hc<;>simp -implicitDefEqProofs only [hc,go_sem,simprocAttr,c_within])
 ·simp_all [rangeS]
 ·simp_all [rangeS]
 ·simp_all [rangeS]
 ·rw [l_range k n s hs _ s.length 0 0 _ ?_ rfl (by omega),List.drop_zero]
  ·split
   ·simp -implicitDefEqProofs only [go_sem,simprocAttr]
    simp_all [rangeS]
   ·simp_all [rangeS]
  ·rfl
theorem byteRows_row:∀ (s:List UInt8) (i:Nat) (b:UInt8),s[i]? = some b→(byteRows s)[i]? = some [.int .u8 (b.toNat:Int)]
 | [],i,b,h=>by simp at h
 | c::r,0,b,h=>by simp at h;subst h;rfl
 | c::r,i+1,b,h=>by simpa [byteRows] using byteRows_row r i b (by simpa using h)
theorem l_rplain (s:List UInt8) (hs:s.length≤100) (ks:List It):∀ (m i:Nat) (j:Int) (B:Code),Loop Tryz.f303 0 B→j=(i:Int)→s.length=i+m →
  RL K (.run 303 0 (.code B::.lp B (some ([6,7,8],[])) 0::.blk 0 0::ks) [(6,.rows (byteRows s)),(7,.int .i64 s.length),(8,.int .i64 j)] []) =
  if ok7 (s.drop i)=true then R K (.run 303 0 ks [] []) else some (.bool false,[])
 | 0,i,j,B,hB,hj,hm=>by
  subst hj
  have h1:¬((i:Int) < (s.length:Int)):=by omega
  unfold Loop at hB
  simp -implicitDefEqProofs only [go_sem,simprocAttr,Tryz.f303,loopOf] at hB
  subst hB
  rw [RL_eq]
  simp -implicitDefEqProofs only [go_sem,simprocAttr,h1]
  rw [List.drop_of_length_le (by omega)]
  rfl
 | m+1,i,j,B,hB,hj,hm=>by
  subst hj
  have h1:((i:Int) < (s.length:Int)):=by omega
  have hB':=hB
  obtain ⟨b,hb⟩:=some_at (l:=s) (i:=i) (by omega)
  have hg:=at_get (byteRows_row s i b hb)
  have hw:=next_id (i:=i) (n:=s.length) (by omega) (by omega)
  unfold Loop at hB
  simp -implicitDefEqProofs only [go_sem,simprocAttr,Tryz.f303,loopOf] at hB
  subst hB
  rw [RL_eq]
  rw [drop_get hb]
  have ih:=l_rplain s hs ks m (i+1) _ _ hB' rfl (by omega)
  simp -implicitDefEqProofs only [go_sem,simprocAttr,h1,hg,hw]
  repeat' ((first | apply split_cond | apply split_yes | apply split_no)<;>intro hc<;>simp -implicitDefEqProofs only [hc,go_sem,simprocAttr,h1,hg,hw])
  all_goals simp only [decide_eq_true_eq,decide_eq_false_iff_not] at *
  ·have:ok7 (b::s.drop (i+1))=false:=by simp [ok7_cons];omega
   simp [this]
  ·have:ok7 (b::s.drop (i+1))=false:=by simp [ok7_cons];omega
   simp [this]
  ·have:ok7 (b::s.drop (i+1))=ok7 (s.drop (i+1)):=by
    have:32≤b.toNat∧b.toNat≤126:=by omega
    simp [ok7_cons,this]
   rw [this,ih]
theorem r_plain (s:List UInt8) (hs:s.length≤100):R K (.call 303 [.str s] [])=some (.bool (ok7 s),[]):=by
 rw [call_303]
 simp -implicitDefEqProofs only [go_sem,simprocAttr,Tryz.f303,byteRows_len]
 rw [l_rplain s hs _ s.length 0 0 _ ?_ rfl (by omega),List.drop_zero]
 ·split
  ·simp -implicitDefEqProofs only [go_sem,simprocAttr]
   simp_all
  ·simp_all
 ·rfl
def chkS (kd:Int) (v:Val):Int :=
 if within kd 1 4=false then 4 else if formS v=false then 3 else if v.k≠0∧v.k≠kd then 8 else if 100 < v.s.length then 2 else if rangeS v=false then 1 else 0
theorem c_Check (kd k n:Int) (s:List UInt8):R K (.call 199 [I kd,V k n s] [])=some (I (chkS kd ⟨k,n,s⟩),[]):=by
 by_cases hs:s.length≤100
 ·have hs':¬(100 < (s.length:Int)):=by omega
  have hs2:¬(100 < s.length):=by omega
  rw [call_199]
  simp -implicitDefEqProofs only [go_sem,simprocAttr,Tryz.f199,c_within,c_form,c_range k n s hs,hs']
  repeat' ((first | apply split_cond | apply split_yes | apply split_no)<;>intro hc<;>simp -implicitDefEqProofs only [hc,go_sem,simprocAttr,c_within,c_form,c_range k n s hs,hs'])
  all_goals simp_all [chkS]
 ·have hs':(100 < (s.length:Int)):=by omega
  have hs2:(100 < s.length):=by omega
  rw [call_199]
  simp -implicitDefEqProofs only [go_sem,simprocAttr,Tryz.f199,c_within,c_form,hs']
  repeat' ((first | apply split_cond | apply split_yes | apply split_no)<;>intro hc<;>simp -implicitDefEqProofs only [hc,go_sem,simprocAttr,c_within,c_form,hs'])
  all_goals simp_all [chkS]
def faultK (kd:Int) (v:Val):Int :=
 if !(within v.k 0 4)||(v.k != 3&&v.s != [])||((v.k==3||v.k==0)&&v.n != 0) then 3
 else if kd≠0∧v.k≠0∧v.k≠kd then 8
 else if 100 < v.s.length then 2
 else if !(ok7 v.s)||(v.k==1&&!(within v.n 0 1))||(v.k==2&&!(within v.n (-999999999999999) 999999999999999))||(v.k==4&&!(within v.n 0 253402300799)) then 1
 else 0
set_option maxHeartbeats 4000000 in
theorem r_fault (kd k n:Int) (s:List UInt8):R K (.call 210 [I kd,V k n s] [])=some (I (faultK kd ⟨k,n,s⟩),[]):=by
 by_cases hs:s.length≤100
 ·have hs':¬(100 < (s.length:Int)):=by omega
  have hs2:¬(100 < s.length):=by omega
  rw [call_210]
  simp -implicitDefEqProofs only [go_sem,simprocAttr,Tryz.f210,r_within,r_plain s hs,hs']
  repeat' ((first | apply split_cond | apply split_yes | apply split_no)<;>intro hc<;>simp -implicitDefEqProofs only [hc,go_sem,simprocAttr,r_within,r_plain s hs,hs'])
  all_goals simp_all [faultK]
 ·have hs':(100 < (s.length:Int)):=by omega
  have hs2:(100 < s.length):=by omega
  rw [call_210]
  simp -implicitDefEqProofs only [go_sem,simprocAttr,Tryz.f210,r_within,hs']
  repeat' ((first | apply split_cond | apply split_yes | apply split_no)<;>intro hc<;>simp -implicitDefEqProofs only [hc,go_sem,simprocAttr,r_within,hs'])
  all_goals simp_all [faultK]
theorem fault_chk (kd:Int) (v:Val) (hk:within kd 1 4=true):faultK kd v=chkS kd v:=by
 obtain ⟨k,n,s⟩:=v
 by_cases hw:within k 0 4=true
 ·have h5:k=0∨k=1∨k=2∨k=3∨k=4:=by
   simp only [within,Bool.and_eq_true,decide_eq_true_eq] at hw
   omega
  rcases h5 with rfl | rfl | rfl | rfl | rfl<;>by_cases hs:s=[]<;>(try subst hs)<;>simp_all [faultK,chkS,formS,rangeS,within,ok7]
  all_goals (rcases (show kd=1∨kd=2∨kd=3∨kd=4 by omega) with rfl | rfl | rfl | rfl<;>simp)
  all_goals (split<;>split<;>first | rfl | omega)
 ·have h6:formS ⟨k,n,s⟩=false:=by
   simp only [within,Bool.and_eq_true,decide_eq_true_eq] at hw
   have h7:¬k=0:=by omega
   have h8:¬k=3:=by omega
   have h9:within k 1 4=false:=by
    rw [←Bool.not_eq_true];simp only [within,Bool.and_eq_true,decide_eq_true_eq];omega
   simp [formS,h7,h8,h9]
  rw [Bool.not_eq_true] at hw
  simp [faultK,chkS,hw,hk,h6]
theorem r_ValueFault (kd k n:Int) (s:List UInt8):R K (.call 120 [I kd,V k n s] [])=some (I (chkS kd ⟨k,n,s⟩),[]):=by
 cases hk:within kd 1 4 with
 | false =>
  rw [call_120]
  simp -implicitDefEqProofs only [go_sem,simprocAttr,Tryz.f120,r_within,hk]
  simp [chkS,hk]
 | true =>
  have h1:=r_fault kd k n s
  rw [fault_chk kd _ hk] at h1
  rw [call_120]
  simp -implicitDefEqProofs only [go_sem,simprocAttr,Tryz.f120,r_within,hk,h1]
theorem tm (a b:Int) (h:0≤a):a.tmod b=a % b:=Int.tmod_eq_emod_of_nonneg h
theorem td (a b:Int) (h:0≤a):a.tdiv b=a / b:=Int.tdiv_eq_ediv_of_nonneg h
def belowS (x n:Int):Int:=if n < 1 then 0 else if x.tmod n < 0 then wrapI .i64 (x.tmod n+n) else x.tmod n
theorem r_Below (x n:Int):R K (.call 24 [.int .i64 x,.int .i64 n] [])=some (.int .i64 (belowS x n),[]):=by
 by_cases hn:n < 1
 ·have h1:decide (n < 1)=true:=by simp [hn]
  rw [call_24]
  simp -implicitDefEqProofs only [go_sem,simprocAttr,Tryz.f24,h1]
  simp [belowS,hn]
 ·have h1:decide (n < 1)=false:=by simpa using hn
  have h2:n≠0:=by omega
  have e:belowS x n=if x.tmod n < 0 then wrapI .i64 (x.tmod n+n) else x.tmod n:=if_neg hn
  rw [e]
  rw [call_24]
  simp -implicitDefEqProofs only [go_sem,simprocAttr,Tryz.f24,h1,h2]
  repeat' ((first | apply split_cond | apply split_yes | apply split_no)<;>intro hc<;>simp -implicitDefEqProofs only [hc,go_sem,simprocAttr,h1,h2])
  all_goals simp_all
  intro;omega
theorem below_bounds (x n:Int) (h1:1≤n) (h2:n≤4611686018427387904):0≤belowS x n∧belowS x n < n:=by
 unfold belowS
 rw [if_neg (by omega)]
 have a:=Int.tmod_lt_of_pos x (show 0 < n by omega)
 have b:-n < x.tmod n:=by
  have:=Int.tmod_lt_of_pos (-x) (show 0 < n by omega)
  rw [Int.neg_tmod] at this
  omega
 split
 ·rw [wrap_id (by omega) (by omega)];omega
 ·omega
def nextS (L:List Int) (a n:Int):Int :=
 if L.length=0 then belowS (wrapI .i64 ((a+1)*7919)) n
 else belowS (wrapI .i64 (belowS (L.getD (a % L.length).toNat 0) 1073741824+wrapI .i64 (a / L.length*(7919+a % L.length)))) n
abbrev LR (L:List Int):AV:=.rows (L.map fun x=>[.int .i64 x])
theorem r_Next (L:List Int) (a n:Int) (ha:0≤a) (ha2:a≤4611686018427387904) (hL:L.length≤9223372036854775807):R K (.call 10 [.ptr 0 0,.int .i64 n] [.cells [LR L,.int .i64 a]])=some (.int .i64 (nextS L a n),[.cells [LR L,.int .i64 (a+1)]]):=by
 have e1:wrapI .i64 (a+1)=a+1:=wrap_id (by omega) (by omega)
 have e2:wrapI .i64 (a+1 - 1)=a:=by rw [wrap_id (by omega) (by omega)];omega
 have el:(L.map fun x=>[AV.int .i64 x]).length=L.length:=List.length_map _
 by_cases h:L.length=0
 ·have h0:decide (((L.length:Nat):Int)=0)=true:=by simp [h]
  have hb:(((L.length:Nat):Int)==0)=true:=by simp [h]
  have e:nextS L a n=belowS (wrapI .i64 ((a+1)*7919)) n:=if_pos h
  rw [e]
  rw [call_10]
  simp -implicitDefEqProofs only [go_sem,simprocAttr,Tryz.f10,e1,hb,el,r_Below]
 ·have hb:(((L.length:Nat):Int)==0)=false:=by simpa using h
  have hl1:(1:Int)≤L.length:=by omega
  have e3:a.tmod (L.length:Int)=a % L.length:=tm _ _ ha
  have e4:wrapI .i64 (a.tdiv (L.length:Int))=a / L.length:=by
   rw [td _ _ ha]
   have:=Int.ediv_le_self (L.length:Int) ha
   have:=Int.ediv_nonneg ha (show (0:Int)≤L.length by omega)
   exact wrap_id (by omega) (by omega)
  have m1:=Int.emod_nonneg a (show (L.length:Int)≠0 by omega)
  have m2:=Int.emod_lt_of_pos a (show (0:Int) < L.length by omega)
  have m3:a % (L.length:Int)≤a:=by
   rw [Int.emod_def]
   exact Int.sub_le_self a (Int.mul_nonneg (by omega) (Int.ediv_nonneg ha (by omega)))
  obtain ⟨x,hx⟩:=some_at (l:=L) (i:=(a % L.length).toNat) (by omega)
  have e5:at? (L.map fun x=>[AV.int .i64 x]) (a % L.length)=some [.int .i64 x]:=by
   unfold at?
   rw [if_pos m1]
   simp [hx]
  have e6:wrapI .i64 (7919+a % L.length)=7919+a % L.length:=wrap_id (by omega) (by omega)
  have hd:L.getD (a % L.length).toNat 0=x:=by simp [List.getD,hx]
  have hne:((L.length:Nat):Int)≠0:=by omega
  have e:nextS L a n=belowS (wrapI .i64 (belowS x 1073741824+wrapI .i64 (a / L.length*(7919+a % L.length)))) n:=by
   unfold nextS
   rw [if_neg h,hd]
  rw [e]
  rw [call_10]
  simp -implicitDefEqProofs only [go_sem,simprocAttr,Tryz.f10,e1,e2,e3,e4,e5,e6,hb,hne,h,el,r_Below]
theorem next_bounds (L:List Int) (a n:Int) (h1:1≤n) (h2:n≤4611686018427387904):0≤nextS L a n∧nextS L a n < n:=by
 unfold nextS
 split<;>exact below_bounds _ _ h1 h2
theorem p_Repeat (s:List UInt8) (c:Nat) (h:c≤1000) (hs:s.length≤1000):R K (.call 98 [.str s,I (c:Int)] [])=some (.str (Lib.repeatL s c),[]) :=
 R_prim (by
  show pRepeat [.str s,I (c:Int)]=_
  simp only [pRepeat]
  have:s.length*c≤1000*1000:=Nat.mul_le_mul hs h
  rw [if_pos (by simp only [Bool.and_eq_true,decide_eq_true_eq,Int.toNat_natCast];omega),Int.toNat_natCast])
abbrev St (L:List Int) (a:Int):Heap:=[.cells [LR L,I a]]
structure Gd (L:List Int) (a B:Int):Prop where
 pos:0≤a
 top:a+B≤4611686018427387904
 len:L.length≤9223372036854775807
theorem Gd.step {L:List Int} {a B:Int} (h:Gd L a B) (a' B':Int) (h1:a≤a') (h2:a'+B'≤a+B):Gd L a' B':=⟨by have:=h.pos;omega,by have:=h.top;omega,h.len⟩
def Out (t:Tk) (L:List Int) (a B:Int) (P:AV→Prop):Prop:=∃ r a',R K t=some (r,St L a')∧a≤a'∧a'≤a+B∧P r
theorem Out.mk {t:Tk} {L:List Int} {a B:Int} {P:AV→Prop} (r:AV) (a':Int) (h1:a≤a') (h2:a'≤a+B) (h3:P r) (e:R K t=some (r,St L a')):Out t L a B P:=⟨r,a',e,h1,h2,h3⟩
section
variable {L:List Int} {a B:Int}
theorem g_Next (h:Gd L a B) (hB:1≤B) (n:Int):R K (.call 10 [.ptr 0 0,I n] (St L a))=some (I (nextS L a n),St L (a+1)):=by
 have h1:=h.pos
 have h2:=h.top
 exact r_Next L a n h1 (by omega) h.len
def rngS (L:List Int) (a lo hi:Int):Int:=lo+nextS L a (hi - lo+1)
theorem range_bounds (L:List Int) (a lo hi:Int) (h1:lo≤hi) (h2:hi - lo≤4611686018427387000):lo≤rngS L a lo hi∧rngS L a lo hi≤hi:=by
 have:=next_bounds L a (hi - lo+1) (by omega) (by omega)
 unfold rngS
 omega
theorem g_Range (h:Gd L a B) (hB:1≤B) (lo hi:Int) (h1:lo≤hi) (h2:-1152921504606846976≤lo) (h3:hi≤1152921504606846976):R K (.call 40 [.ptr 0 0,I lo,I hi] (St L a))=some (I (rngS L a lo hi),St L (a+1)):=by
 have x0:=g_Next h hB (hi - lo+1)
 have b0:=range_bounds L a lo hi h1 (by omega)
 have d0:decide (hi < lo)=false:=decide_eq_false (by omega)
 have w1:wrapI .i64 (hi - lo)=hi - lo:=wrap_id (by omega) (by omega)
 have w2:wrapI .i64 (hi - lo+1)=hi - lo+1:=wrap_id (by omega) (by omega)
 have w3:wrapI .i64 (lo+nextS L a (hi - lo+1))=rngS L a lo hi:=by
  unfold rngS at b0 ⊢
  exact wrap_id (by omega) (by omega)
 rw [call_40]
 simp -implicitDefEqProofs only [go_sem,simprocAttr,Tryz.f40,x0,d0,w1,w2,w3]
theorem g_Flip (h:Gd L a B) (hB:1≤B) (n:Int):R K (.call 45 [.ptr 0 0,I n] (St L a))=some (.bool (nextS L a n==0),St L (a+1)):=by
 have x0:=g_Next h hB n
 rw [call_45]
 simp -implicitDefEqProofs only [go_sem,simprocAttr,Tryz.f45,x0]
theorem int_at {l:List Int} {i:Int} (h:0≤i∧i < (l.length:Int)):∃ x∈l,at? (l.map fun x=>[I x]) i=some [I x]:=by
 obtain ⟨x,hx⟩:=some_at (l:=l) (i:=i.toNat) (by omega)
 refine ⟨x,List.mem_of_getElem? hx,?_⟩
 unfold at?
 rw [if_pos h.1]
 simp [hx]
theorem g_Pick (h:Gd L a B) (hB:1≤B) (l:List Int) (hl:1≤l.length) (hl2:l.length≤1000):∃ x∈l,R K (.call 8 [.ptr 0 0,.rows (l.map fun x=>[I x])] (St L a))=some (I x,St L (a+1)):=by
 have x0:=g_Next h hB (l.length:Int)
 have b0:=next_bounds L a (l.length:Int) (by omega) (by omega)
 obtain ⟨x,hx,hg⟩:=int_at (l:=l) b0
 refine ⟨x,hx,?_⟩
 rw [call_8]
 simp -implicitDefEqProofs only [go_sem,simprocAttr,Tryz.f8,x0,hg]
theorem g_Int (h:Gd L a B) (hB:2≤B):∃ n a',R K (.call 96 [.ptr 0 0] (St L a))=some (I n,St L a')∧a≤a'∧a'≤a+2:=by
 have x0:=g_Next h (by omega) 10
 have h1:=h.step (a+1) (B - 1) (by omega) (by omega)
 by_cases e0:nextS L a 10=0
 ·obtain ⟨x,_,p⟩:=g_Pick h1 (by omega) [999999999999999,-999999999999999,1000000000000000,-1000000000000000,4611686018427387904,-9223372036854775808,9223372036854775807,253402300799,253402300800] (by decide) (by decide)
  simp only [List.map] at p
  refine ⟨x,a+1+1,?_,by omega,by omega⟩
  rw [call_96]
  simp -implicitDefEqProofs only [go_sem,simprocAttr,Tryz.f96,x0,e0,p]
 ·have b0:(nextS L a 10==0)=false:=by simpa using e0
  by_cases e1:nextS L a 10=1
  ·have x1:=g_Range h1 (by omega) (-1000000) 1000000 (by omega) (by omega) (by omega)
   refine ⟨rngS L (a+1) (-1000000) 1000000,a+1+1,?_,by omega,by omega⟩
   rw [call_96]
   simp -implicitDefEqProofs only [go_sem,simprocAttr,Tryz.f96,x0,e1,x1]
  ·have b1:(nextS L a 10==1)=false:=by simpa using e1
   have x1:=g_Range h1 (by omega) (-6) 12 (by omega) (by omega) (by omega)
   refine ⟨rngS L (a+1) (-6) 12,a+1+1,?_,by omega,by omega⟩
   rw [call_96]
   simp -implicitDefEqProofs only [go_sem,simprocAttr,Tryz.f96,x0,b0,b1,x1]
theorem str_at {l:List (List UInt8)} {i:Int} (h:0≤i∧i < (l.length:Int)):∃ x∈l,at? (l.map fun x=>[AV.str x]) i=some [.str x]:=by
 obtain ⟨x,hx⟩:=some_at (l:=l) (i:=i.toNat) (by omega)
 refine ⟨x,List.mem_of_getElem? hx,?_⟩
 unfold at?
 rw [if_pos h.1]
 simp [hx]
def pcs:List (List UInt8):=[[97],[98],[97,98],[],[65],[37],[95],[92],[39],[32],[48],[49,50],[45,51],[116,114,117,101],[120,44,121],[40],[50,48,48,48,45,48,50,45,50,57,84,48,48,58,48,48,58,48,48]]
theorem pcs_len:∀ x∈pcs,x.length≤19:=by decide
theorem pcs_no:∀ x∈pcs,x.count 41=0:=by decide
theorem rep_no (s:List UInt8) (h:s.count 41=0):∀ n:Nat,(Lib.repeatL s n).count 41=0
 | 0=>by simp [Lib.repeatL]
 | n+1=>by
  have:=rep_no s h n
  simp only [Lib.repeatL] at this ⊢
  simp [List.replicate_succ,List.count_append,h,this]
theorem l_text (c:Nat) (hc:c≤100) (ks:List It):∀ (m j:Nat) (i:Int) (t:List UInt8) (a B:Int) (Bo:Code),Loop Tryz.f97 0 Bo→Gd L a B→m≤B→i=(j:Int)→c=j+m→t.length≤19*j→t.count 41=0 →
  ∃ (t':List UInt8) (a':Int),a≤a'∧a'≤a+m∧(t'.length≤19*c∧t'.count 41=0) ∧
  RL K (.run 97 1 (.code Bo::.lp Bo (some ([0,3,4,18,19],[])) 1::.blk 0 1::ks) [(0,.ptr 0 0),(3,.lit (pcs.map fun x=>[.str x])),(4,.str t),(18,I (c:Int)),(19,I i)] (St L a)) =
  R K (.run 97 1 ks [(4,.str t')] (St L a'))
 | 0,j,i,t,a,B,Bo,hB,hG,hm,hi,hj,ht,hn=>by
  subst hi
  have h1:decide ((j:Int) < (c:Int))=false:=decide_eq_false (by omega)
  refine ⟨t,a,by omega,by omega,⟨by omega,hn⟩,?_⟩
  unfold Loop at hB
  simp -implicitDefEqProofs only [go_sem,simprocAttr,Tryz.f97,loopOf] at hB
  subst hB
  rw [RL_eq]
  simp -implicitDefEqProofs only [go_sem,simprocAttr,h1]
 | m+1,j,i,t,a,B,Bo,hB,hG,hm,hi,hj,ht,hn=>by
  subst hi
  have hB':=hB
  have h1:decide ((j:Int) < (c:Int))=true:=decide_eq_true (by omega)
  have x1:=g_Next hG (by omega) 17
  obtain ⟨x,hx,hg⟩:=str_at (l:=pcs) (next_bounds L a 17 (by omega) (by omega))
  have hxl:=pcs_len x hx
  have h7:=next_id (i:=j) (n:=c) (by omega) (by omega)
  have k1:(t.length+x.length≤strMax)=True:=eq_true (by unfold strMax;omega)
  have l1:(pcs.map fun x=>[AV.str x]).length=17:=rfl
  obtain ⟨t',a',q1,q2,q3,ih⟩:=l_text c hc ks m (j+1) _ (t++x) (a+1) (B - 1) Bo hB' (hG.step _ _ (by omega) (by omega)) (by omega) rfl (by omega) (by rw [List.length_append];omega) (by rw [List.count_append,hn,pcs_no x hx])
  refine ⟨t',a',by omega,by omega,q3,?_⟩
  unfold Loop at hB
  simp -implicitDefEqProofs only [go_sem,simprocAttr,Tryz.f97,loopOf] at hB
  subst hB
  rw [RL_eq]
  simp -implicitDefEqProofs only [go_sem,simprocAttr,h1,x1,hg,l1,h7,k1]
  rw [ih]
theorem g_text (h:Gd L a B) (hB:10≤B):∃ s a',R K (.call 97 [.ptr 0 0] (St L a))=some (.str s,St L a')∧a≤a'∧a'≤a+10∧s.length≤2000∧s.count 41=0:=by
 have x0:=g_Flip h (by omega) 12
 have h1:=h.step (a+1) (B - 1) (by omega) (by omega)
 cases e0:nextS L a 12==0 with
 | true =>
  rw [e0] at x0
  have x1:=g_Next h1 (by omega) 4
  obtain ⟨s,hs,hg⟩:=str_at (l:=[[97],[39],[92],[37]]) (next_bounds L (a+1) 4 (by omega) (by omega))
  have hsn:s.count 41=0:=(by decide:∀ x∈([[97],[39],[92],[37]]:List (List UInt8)),x.count 41=0) s hs
  have hsl:s.length≤1:=(by decide:∀ x∈([[97],[39],[92],[37]]:List (List UInt8)),x.length≤1) s hs
  have h2:=h1.step (a+1+1) (B - 2) (by omega) (by omega)
  obtain ⟨x,hx,p⟩:=g_Pick h2 (by omega) [49,50,51,99,100,101] (by decide) (by decide)
  have hxb:0≤x∧x≤101:=(by decide:∀ x∈([49,50,51,99,100,101]:List Int),0≤x∧x≤101) x hx
  have pr:=p_Repeat s x.toNat (by omega) (by omega)
  rw [Int.toNat_of_nonneg hxb.1] at pr
  simp only [List.map] at p hg
  refine ⟨Lib.repeatL s x.toNat,a+1+1+1,?_,by omega,by omega,?_⟩
  ·rw [call_97]
   simp -implicitDefEqProofs only [go_sem,simprocAttr,Tryz.f97,x0,x1,hg,p,pr]
  ·rw [Lib.repeatL_length,Nat.mul_comm]
   have:s.length*x.toNat≤1*101:=Nat.mul_le_mul hsl (by omega)
   exact ⟨by omega,rep_no s hsn _⟩
 | false =>
  rw [e0] at x0
  have x1:=g_Range h1 (by omega) 0 3 (by omega) (by omega) (by omega)
  have b1:=range_bounds L (a+1) 0 3 (by omega) (by omega)
  have e1:((rngS L (a+1) 0 3).toNat:Int)=rngS L (a+1) 0 3:=by omega
  obtain ⟨t',a',q1,q2,q3,lk⟩:=l_text (L:=L) (rngS L (a+1) 0 3).toNat (by omega) [.code _] (rngS L (a+1) 0 3).toNat 0 0 [] (a+1+1) (B - 2) _ rfl (h1.step _ _ (by omega) (by omega)) (by omega) rfl (by omega) (by simp) rfl
  rw [e1] at lk
  refine ⟨t',a',?_,by omega,by omega,by omega,q3.2⟩
  rw [call_97]
  simp -implicitDefEqProofs only [go_sem,simprocAttr,Tryz.f97,x0,x1]
  simp only [pcs,List.map] at lk
  rw [lk]
  simp -implicitDefEqProofs only [go_sem,simprocAttr]
theorem g_Full (h:Gd L a B) (hB:12≤B) (k:Int):∃ v a',R K (.call 191 [.ptr 0 0,I k] (St L a))=some (enc v,St L a')∧a≤a'∧a'≤a+12∧v.s.length≤2000∧v.s.count 41=0:=by
 by_cases k1:k=1
 ·subst k1
  have x0:=g_Next h (by omega) 2
  refine ⟨⟨1,nextS L a 2,[]⟩,a+1,?_,by omega,by omega,by simp,rfl⟩
  rw [call_191]
  simp -implicitDefEqProofs only [go_sem,simprocAttr,Tryz.f191,x0]
 have b1:(k==1)=false:=by simpa using k1
 by_cases k2:k=2
 ·subst k2
  obtain ⟨n,a',x0,q1,q2⟩:=g_Int h (by omega)
  refine ⟨⟨2,if 999999999999999 < (if n < -999999999999999 then -999999999999999 else n) then 999999999999999 else (if n < -999999999999999 then -999999999999999 else n),[]⟩,a',?_,by omega,by omega,by simp,rfl⟩
  rw [call_191]
  simp -implicitDefEqProofs only [go_sem,simprocAttr,Tryz.f191,x0]
  all_goals rfl
 have b2:(k==2)=false:=by simpa using k2
 by_cases k3:k=3
 ·subst k3
  obtain ⟨s,a',x0,q1,q2,q3⟩:=g_text h (by omega)
  by_cases hl:100 < s.length
  ·have d0:decide ((100:Int) < (s.length:Int))=true:=decide_eq_true (by omega)
   have d1:((100:Int)≤(s.length:Int))=True:=eq_true (by omega)
   have d2:(100:Int).toNat=100:=rfl
   refine ⟨⟨3,0,s.take 100⟩,a',?_,by omega,by omega,by simp;omega,Nat.eq_zero_of_le_zero (by show (s.take 100).count 41≤0;have:=List.Sublist.count_le (41:UInt8) (List.take_sublist 100 s);omega)⟩
   rw [call_191]
   simp -implicitDefEqProofs only [go_sem,simprocAttr,Tryz.f191,x0,d0,d1,d2]
  ·have d0:decide ((100:Int) < (s.length:Int))=false:=decide_eq_false (by omega)
   refine ⟨⟨3,0,s⟩,a',?_,by omega,by omega,q3⟩
   rw [call_191]
   simp -implicitDefEqProofs only [go_sem,simprocAttr,Tryz.f191,x0,d0]
 have b3:(k==3)=false:=by simpa using k3
 have x0:=g_Range h (by omega) 0 2147483648 (by omega) (by omega) (by omega)
 have h1:=h.step (a+1) (B - 1) (by omega) (by omega)
 obtain ⟨x,_,p⟩:=g_Pick h1 (by omega) [0,1,59,86399,86400,951782400,951868799,1709164800,1706659200,253402300799,rngS L a 0 2147483648] (by simp) (by simp)
 simp only [List.map] at p
 refine ⟨⟨k,x,[]⟩,a+1+1,?_,by omega,by omega,by simp,rfl⟩
 rw [call_191]
 simp -implicitDefEqProofs only [go_sem,simprocAttr,Tryz.f191,b1,b2,b3,x0,p]
theorem g_Value (h:Gd L a B) (hB:13≤B) (k:Int):∃ v a',R K (.call 95 [.ptr 0 0,I k] (St L a))=some (enc v,St L a')∧a≤a'∧a'≤a+13∧v.s.length≤2000∧v.s.count 41=0:=by
 have x0:=g_Flip h (by omega) 7
 have h1:=h.step (a+1) (B - 1) (by omega) (by omega)
 cases e0:nextS L a 7==0 with
 | true =>
  rw [e0] at x0
  refine ⟨null,a+1,?_,by omega,by omega,by simp [null],rfl⟩
  rw [call_95]
  simp -implicitDefEqProofs only [go_sem,simprocAttr,Tryz.f95,x0]
  all_goals rfl
 | false =>
  rw [e0] at x0
  obtain ⟨v,a',x1,q1,q2,q3⟩:=g_Full h1 (by omega) k
  refine ⟨v,a',?_,by omega,by omega,q3⟩
  rw [call_95]
  simp -implicitDefEqProofs only [go_sem,simprocAttr,Tryz.f95,x0,x1]
theorem g_Any (h:Gd L a B) (hB:30≤B):∃ v a',R K (.call 51 [.ptr 0 0] (St L a))=some (enc v,St L a')∧a≤a'∧a'≤a+30∧v.s.length≤2001∧v.s.count 41=0:=by
 have x0:=g_Range h (by omega) 1 4 (by omega) (by omega) (by omega)
 obtain ⟨v,a1,x1,q1,q2,q3⟩:=g_Value (h.step (a+1) (B - 1) (by omega) (by omega)) (by omega) (rngS L a 1 4)
 have h1:=h.step a1 (B - 14) (by omega) (by omega)
 have x2:=g_Flip h1 (by omega) 8
 cases e0:nextS L a1 8==0 with
 | false =>
  rw [e0] at x2
  refine ⟨v,a1+1,?_,by omega,by omega,by omega,q3.2⟩
  rw [call_51]
  simp -implicitDefEqProofs only [go_sem,simprocAttr,Tryz.f51,x0,x1,x2]
 | true =>
  rw [e0] at x2
  have h2:=h1.step (a1+1) (B - 15) (by omega) (by omega)
  have x3:=g_Next h2 (by omega) 5
  have h3:=h2.step (a1+1+1) (B - 16) (by omega) (by omega)
  by_cases c0:nextS L (a1+1) 5=0
  ·obtain ⟨x,_,p⟩:=g_Pick h3 (by omega) [-1,5,0,1,2,3,4] (by decide) (by decide)
   simp only [List.map] at p
   refine ⟨⟨x,v.n,v.s⟩,a1+1+1+1,?_,by omega,by omega,by simp only;omega,q3.2⟩
   rw [call_51]
   simp -implicitDefEqProofs only [go_sem,simprocAttr,Tryz.f51,x0,x1,x2,x3,c0,p]
  have b0:(nextS L (a1+1) 5==0)=false:=by simpa using c0
  by_cases c1:nextS L (a1+1) 5=1
  ·obtain ⟨n,a2,p,r1,r2⟩:=g_Int h3 (by omega)
   refine ⟨⟨v.k,n,v.s⟩,a2,?_,by omega,by omega,by simp only;omega,q3.2⟩
   rw [call_51]
   simp -implicitDefEqProofs only [go_sem,simprocAttr,Tryz.f51,x0,x1,x2,x3,c1,p]
  have b1:(nextS L (a1+1) 5==1)=false:=by simpa using c1
  by_cases c2:nextS L (a1+1) 5=2
  ·obtain ⟨s,a2,p,r1,r2,r3⟩:=g_text h3 (by omega)
   refine ⟨⟨v.k,v.n,s⟩,a2,?_,by omega,by omega,by simp only;omega,r3.2⟩
   rw [call_51]
   simp -implicitDefEqProofs only [go_sem,simprocAttr,Tryz.f51,x0,x1,x2,x3,c2,p]
  have b2:(nextS L (a1+1) 5==2)=false:=by simpa using c2
  by_cases c3:nextS L (a1+1) 5=3
  ·have k1:(v.s.length+1≤strMax)=True:=eq_true (by unfold strMax;omega)
   refine ⟨⟨v.k,v.n,v.s++[10]⟩,a1+1+1,?_,by omega,by omega,by simp;omega,by simp only;rw [List.count_append,q3.2];rfl⟩
   rw [call_51]
   simp -implicitDefEqProofs only [go_sem,simprocAttr,Tryz.f51,x0,x1,x2,x3,c3,k1]
  have b3:(nextS L (a1+1) 5==3)=false:=by simpa using c3
  obtain ⟨x,hx,p⟩:=g_Pick h3 (by omega) [100,101] (by decide) (by decide)
  have hxb:0≤x∧x≤101:=(by decide:∀ x∈([100,101]:List Int),0≤x∧x≤101) x hx
  have pr:=p_Repeat [122] x.toNat (by omega) (by simp)
  rw [Int.toNat_of_nonneg hxb.1] at pr
  simp only [List.map] at p
  refine ⟨⟨v.k,v.n,Lib.repeatL [122] x.toNat⟩,a1+1+1+1,?_,by omega,by omega,?_⟩
  ·rw [call_51]
   simp -implicitDefEqProofs only [go_sem,simprocAttr,Tryz.f51,x0,x1,x2,x3,b0,b1,b2,b3,p,pr]
  ·simp only
   rw [Lib.repeatL_length]
   exact ⟨by simp;omega,rep_no _ rfl _⟩
end
def rightS (v:Val):Bool:=formS v&&(decide (v.s.length≤100)&&rangeS v)
theorem c_right (k n:Int) (s:List UInt8):R K (.call 297 [V k n s] [])=some (.bool (rightS ⟨k,n,s⟩),[]):=by
 by_cases hs:s.length≤100
 ·have hs':(s.length:Int)≤100:=by omega
  rw [call_297]
  simp -implicitDefEqProofs only [go_sem,simprocAttr,Tryz.f297,c_form,c_range k n s hs,hs']
  repeat' ((first | apply split_cond | apply split_yes | apply split_no)<;>intro hc<;>simp -implicitDefEqProofs only [hc,go_sem,simprocAttr,c_form,c_range k n s hs,hs'])
  all_goals simp_all [rightS]<;>omega
 ·have hs':¬(s.length:Int)≤100:=by omega
  rw [call_297]
  simp -implicitDefEqProofs only [go_sem,simprocAttr,Tryz.f297,c_form,hs']
  repeat' ((first | apply split_cond | apply split_yes | apply split_no)<;>intro hc<;>simp -implicitDefEqProofs only [hc,go_sem,simprocAttr,c_form,hs'])
  all_goals simp_all [rightS]<;>omega
def plainV (v:Val):Val:=if rightS v=true then v else null
theorem c_plain (k n:Int) (s:List UInt8):R K (.call 204 [V k n s] [])=some (enc (plainV ⟨k,n,s⟩),[]):=by
 rw [call_204]
 simp -implicitDefEqProofs only [go_sem,simprocAttr,Tryz.f204,c_right]
 repeat' ((first | apply split_cond | apply split_yes | apply split_no)<;>intro hc<;>simp -implicitDefEqProofs only [hc,go_sem,simprocAttr,c_right])
 all_goals simp_all [plainV,null]
def numberS (k n:Int):Val:=plainV ⟨k,n,[]⟩
theorem c_number (k n:Int):R K (.call 480 [.int .i64 k,.int .i64 n] [])=some (enc (numberS k n),[]):=by
 rw [call_480]
 simp -implicitDefEqProofs only [go_sem,simprocAttr,Tryz.f480,c_plain]
 all_goals simp_all [numberS]
def faultS (v:Val):Int :=
 if !(within v.k 0 4)||(v.k != 3&&v.s != [])||((v.k==3||v.k==0)&&v.n != 0) then 3
 else if 100 < v.s.length then 2
 else if !(ok7 v.s)||(v.k==1&&!(within v.n 0 1))||(v.k==2&&!(within v.n (-999999999999999) 999999999999999))||(v.k==4&&!(within v.n 0 253402300799)) then 1
 else 0
theorem fault0 (v:Val):faultK 0 v=faultS v:=by simp [faultK,faultS]
theorem fault_right (v:Val):(faultS v=0)↔rightS v=true:=by
 obtain ⟨k,n,s⟩:=v
 by_cases h0:k=0
 ·subst h0
  by_cases h1:n=0<;>by_cases h2:s=[]<;>simp [faultS,rightS,formS,rangeS,within,ok7,h1,h2]
 ·by_cases h3:k=3
  ·subst h3
   by_cases h1:n=0<;>by_cases h2:s.length≤100<;>simp [faultS,rightS,formS,rangeS,within,h1,h2,Nat.not_lt.2,Nat.not_le.1]<;>(try omega)<;>(cases ok7 s<;>simp<;>omega)
  ·by_cases h4:within k 0 4=true
   ·have h5:within k 1 4=true:=by simp [within] at h4 ⊢;omega
    by_cases h2:s=[]
    ·subst h2
     by_cases k1:k=1
     ·subst k1;simp [faultS,rightS,formS,rangeS,h4,h5,ok7]
     ·by_cases k2:k=2
      ·subst k2;simp [faultS,rightS,formS,rangeS,h4,h5,ok7]
      ·by_cases k4:k=4
       ·subst k4;simp [faultS,rightS,formS,rangeS,h4,h5,ok7]
       ·simp [within] at h4;omega
    ·simp [faultS,rightS,formS,h0,h3,h2]
   ·have h5:within k 1 4=false:=by simp [within] at h4 ⊢;omega
    simp [faultS,rightS,formS,h0,h3,h4,h5]
theorem r_AnyFault (k n:Int) (s:List UInt8):R K (.call 387 [V k n s] [])=some (.int .i64 (faultS ⟨k,n,s⟩),[]):=by
 have h:=r_fault 0 k n s
 rw [fault0] at h
 rw [call_387]
 simp -implicitDefEqProofs only [go_sem,simprocAttr,Tryz.f387,h]
theorem r_right (k n:Int) (s:List UInt8):R K (.call 304 [V k n s] [])=some (enc (plainV ⟨k,n,s⟩),[]):=by
 have h:=fault_right ⟨k,n,s⟩
 rw [call_304]
 simp -implicitDefEqProofs only [go_sem,simprocAttr,Tryz.f304,r_AnyFault]
 repeat' ((first | apply split_cond | apply split_yes | apply split_no)<;>intro hc<;>simp -implicitDefEqProofs only [hc,go_sem,simprocAttr,r_AnyFault])
 all_goals simp_all [plainV,null]
theorem r_moment (n:Int):R K (.call 486 [.int .i64 n] [])=some (enc (numberS 4 n),[]):=by
 rw [call_486]
 simp -implicitDefEqProofs only [go_sem,simprocAttr,Tryz.f486,r_right]
 all_goals simp [numberS]
def leapS (y:Int):Bool:=(y % 4==0&&!(y % 100==0))||y % 400==0
def mdS (y m:Int):Int:=if m=2 then (if leapS y=true then 29 else 28) else if m=4∨m=6∨m=9∨m=11 then 30 else 31
def ydS (y:Int):Int:=365*(y - 1970)+(y - 1) / 4 - (y - 1) / 100+(y - 1) / 400 - 477
def lenS (y:Int):Int:=if leapS y=true then 366 else 365
theorem leap_iff (y:Int):leapS y=true↔(y % 4=0∧y % 100≠0)∨y % 400=0:=by simp [leapS]
theorem yd_next (y:Int):ydS (y+1)=ydS y+lenS y:=by
 unfold ydS lenS
 by_cases h:leapS y=true
 ·rw [if_pos h]
  rw [leap_iff] at h
  omega
 ·rw [if_neg h]
  rw [leap_iff] at h
  omega
theorem len_pos (y:Int):365≤lenS y∧lenS y≤366:=by unfold lenS;split<;>omega
theorem md_pos (y m:Int):28≤mdS y m∧mdS y m≤31:=by unfold mdS;repeat' split<;>omega
theorem yd_mono_nat (y:Int):∀ k:Nat,ydS y+k*365≤ydS (y+k)
 | 0=>by simp
 | k+1=>by
  have ih:=yd_mono_nat y k
  have e:=yd_next (y+k)
  have l:=len_pos (y+k)
  have:y+((k+1:Nat):Int)=y+k+1:=by omega
  rw [this]
  omega
theorem yd_mono {y z:Int} (h:y≤z):ydS y+(z - y)*365≤ydS z:=by
 obtain ⟨k,rfl⟩:∃ k:Nat,z=y+k:=⟨(z - y).toNat,by omega⟩
 have:=yd_mono_nat y k
 have e:y+(k:Int) - y=k:=by omega
 rw [e]
 exact this
theorem yd0:ydS 1970=0:=by decide
theorem year_ex:∀ d:Nat,∃ z:Int,1970≤z∧ydS z≤d∧(d:Int) < ydS (z+1)
 | 0=>⟨1970,by omega,by rw [yd0];simp,by rw [yd_next,yd0];have:=len_pos 1970;omega⟩
 | d+1=>by
  obtain ⟨z,h1,h2,h3⟩:=year_ex d
  by_cases h:((d+1:Nat):Int) < ydS (z+1)
  ·exact ⟨z,h1,by omega,h⟩
  ·refine ⟨z+1,by omega,by omega,?_⟩
   have:=yd_next (z+1)
   have:=len_pos (z+1)
   omega
noncomputable def yearS (d:Int):Int:=Classical.choose (year_ex d.toNat)
theorem year_spec {d:Int} (h:0≤d):1970≤yearS d∧ydS (yearS d)≤d∧d < ydS (yearS d+1):=by
 have hc:=Classical.choose_spec (year_ex d.toNat)
 obtain ⟨h1,h2,h3⟩:=hc
 unfold yearS
 refine ⟨h1,?_,?_⟩
 ·omega
 ·omega
theorem year_le {d y:Int} (h:0≤d) (hy:d < ydS (y+1)):yearS d≤y:=by
 rcases Int.lt_or_le y (yearS d) with hl | hl
 ·have:=(year_spec h).2.1
  have:=yd_mono (y:=y+1) (z:=yearS d) (by omega)
  omega
 ·exact hl
theorem year_ge {d y:Int} (h:0≤d) (hy:ydS y≤d):y≤yearS d:=by
 rcases Int.lt_or_le (yearS d) y with hl | hl
 ·have:=(year_spec h).2.2
  have:=yd_mono (y:=yearS d+1) (z:=y) (by omega)
  omega
 ·exact hl
theorem yd_top:ydS (9999+1)=2932897:=by decide
theorem year_max {d:Int} (h:0≤d) (hd:d≤2932896):yearS d≤9999:=year_le h (by rw [yd_top];omega)
theorem yd_up:∀ k:Nat,ydS (1970+k)≤k*366
 | 0=>by rw [show (1970:Int)+((0:Nat):Int)=1970 from rfl,yd0];simp
 | k+1=>by
  have ih:=yd_up k
  have e:=yd_next (1970+k)
  have l:=len_pos (1970+k)
  have:(1970:Int)+((k+1:Nat):Int)=1970+k+1:=by omega
  rw [this]
  omega
theorem year_low {d:Int} (h:0≤d):1970+d / 366≤yearS d:=by
 refine year_ge h ?_
 have:=yd_up (d / 366).toNat
 have e:(((d / 366).toNat:Nat):Int)=d / 366:=by omega
 rw [e] at this
 omega
def monthUp:Nat→Int→Int→Int→Int×Int
 | 0,_,m,r=>(m,r)
 | f+1,y,m,r=>if mdS y m≤r then monthUp f y (m+1) (r - mdS y m) else (m,r)
def restS:Nat→Int→Int→Int
 | 0,_,_=>0
 | f+1,y,m=>mdS y m+restS f y (m+1)
theorem rest_len (y:Int):restS 12 y 1=lenS y:=by
 cases h:leapS y<;>simp [restS,mdS,lenS,h]
theorem month_bounds (y:Int):∀ (f:Nat) (m r:Int),0≤r→r < restS f y m→m≤(monthUp f y m r).1∧(monthUp f y m r).1 < m+f∧0≤(monthUp f y m r).2∧(monthUp f y m r).2 < mdS y (monthUp f y m r).1
 | 0,m,r,h0,h1=>by simp only [restS] at h1;omega
 | f+1,m,r,h0,h1=>by
  simp only [restS] at h1
  simp only [monthUp]
  split
  ·rename_i h
   have ih:=month_bounds y f (m+1) (r - mdS y m) (by omega) (by omega)
   refine ⟨by omega,by omega,ih.2.2.1,ih.2.2.2⟩
  ·rename_i h
   refine ⟨Int.le_refl _,by simp only;omega,h0,?_⟩
   simp only
   omega
def aheadS:Nat→Int→Int
 | 0,_=>0
 | k+1,y=>aheadS k y+mdS y (k+1:Nat)
noncomputable def ymS (n:Int):Int×Int:=monthUp 12 (yearS (n / 86400)) 1 (n / 86400 - ydS (yearS (n / 86400)))
noncomputable def dateS (n:Int):List Int:=[yearS (n / 86400),(ymS n).1,(ymS n).2+1,n % 86400 / 3600,n % 86400 % 3600 / 60,n % 86400 % 60]
theorem date_bounds {n:Int} (h0:0≤n) (h1:n≤253402300799):1970≤yearS (n / 86400)∧yearS (n / 86400)≤9999∧1≤(ymS n).1∧(ymS n).1≤12∧0≤(ymS n).2∧(ymS n).2 < mdS (yearS (n / 86400)) (ymS n).1:=by
 have hd:0≤n / 86400:=by omega
 have hs:=year_spec hd
 have hm:=year_max hd (by omega)
 have hn:=yd_next (yearS (n / 86400))
 have hb:=month_bounds (yearS (n / 86400)) 12 1 (n / 86400 - ydS (yearS (n / 86400))) (by omega) (by rw [rest_len];omega)
 refine ⟨hs.1,hm,hb.1,?_,hb.2.2.1,hb.2.2.2⟩
 have:=hb.2.1
 unfold ymS
 omega
def daysS (y m d:Int):Int:=ydS y+aheadS (m - 1).toNat y+d - 1
def dateV (y m d h mi s:Int):Val:=if 1970≤y∧y≤9999∧1≤m∧m≤12∧1≤d∧d≤mdS y m∧0≤h∧h≤23∧0≤mi∧mi≤59∧0≤s∧s≤59 then numberS 4 (daysS y m d*86400+h*3600+mi*60+s) else null
theorem c_leap (y:Int) (h:0≤y):R K (.call 436 [.int .i64 y] [])=some (.bool (leapS y),[]):=by
 rw [call_436]
 simp -implicitDefEqProofs only [go_sem,simprocAttr,Tryz.f436,tm y _ h]
 repeat' ((first | apply split_cond | apply split_yes | apply split_no)<;>intro hc<;>simp -implicitDefEqProofs only [hc,go_sem,simprocAttr,tm y _ h])
 all_goals simp_all [leapS]
theorem r_leap (y:Int) (h:0≤y):R K (.call 476 [.int .i64 y] [])=some (.bool (leapS y),[]):=by
 rw [call_476]
 simp -implicitDefEqProofs only [go_sem,simprocAttr,Tryz.f476,tm y _ h]
 repeat' ((first | apply split_cond | apply split_yes | apply split_no)<;>intro hc<;>simp -implicitDefEqProofs only [hc,go_sem,simprocAttr,tm y _ h])
 all_goals simp_all [leapS]
theorem c_md (y m:Int) (h:0≤y):R K (.call 386 [.int .i64 y,.int .i64 m] [])=some (.int .i64 (mdS y m),[]):=by
 rw [call_386]
 simp -implicitDefEqProofs only [go_sem,simprocAttr,Tryz.f386,c_leap y h]
 repeat' ((first | apply split_cond | apply split_yes | apply split_no)<;>intro hc<;>simp -implicitDefEqProofs only [hc,go_sem,simprocAttr,c_leap y h])
 all_goals simp_all [mdS]
theorem r_md (y m:Int) (h:0≤y):R K (.call 438 [.int .i64 y,.int .i64 m] [])=some (.int .i64 (mdS y m),[]):=by
 rw [call_438]
 simp -implicitDefEqProofs only [go_sem,simprocAttr,Tryz.f438,r_leap y h]
 repeat' ((first | apply split_cond | apply split_yes | apply split_no)<;>intro hc<;>simp -implicitDefEqProofs only [hc,go_sem,simprocAttr,r_leap y h])
 all_goals simp_all [mdS]
theorem r_yearDays (y:Int) (h:0≤y):R K (.call 437 [.int .i64 y] [])=some (.int .i64 (lenS y),[]):=by
 rw [call_437]
 simp -implicitDefEqProofs only [go_sem,simprocAttr,Tryz.f437,r_leap y h]
 repeat' ((first | apply split_cond | apply split_yes | apply split_no)<;>intro hc<;>simp -implicitDefEqProofs only [hc,go_sem,simprocAttr,r_leap y h])
 all_goals simp_all [lenS]
theorem c_yd (y:Int) (h:1≤y) (h2:y≤100000):R K (.call 385 [.int .i64 y] [])=some (.int .i64 (ydS y),[]):=by
 have e1:wrapI .i64 (y - 1)=y - 1:=wrap_id (by omega) (by omega)
 have e2:wrapI .i64 (y - 1970)=y - 1970:=wrap_id (by omega) (by omega)
 have e3:wrapI .i64 (365*(y - 1970))=365*(y - 1970):=wrap_id (by omega) (by omega)
 have e4:wrapI .i64 ((y - 1).tdiv 4)=(y - 1) / 4:=by rw [td _ _ (by omega)];exact wrap_id (by omega) (by omega)
 have e5:wrapI .i64 (365*(y - 1970)+(y - 1) / 4)=365*(y - 1970)+(y - 1) / 4:=wrap_id (by omega) (by omega)
 have e6:wrapI .i64 ((y - 1).tdiv 100)=(y - 1) / 100:=by rw [td _ _ (by omega)];exact wrap_id (by omega) (by omega)
 have e7:wrapI .i64 (365*(y - 1970)+(y - 1) / 4 - (y - 1) / 100)=365*(y - 1970)+(y - 1) / 4 - (y - 1) / 100:=wrap_id (by omega) (by omega)
 have e8:wrapI .i64 ((y - 1).tdiv 400)=(y - 1) / 400:=by rw [td _ _ (by omega)];exact wrap_id (by omega) (by omega)
 have e9:wrapI .i64 (365*(y - 1970)+(y - 1) / 4 - (y - 1) / 100+(y - 1) / 400)=365*(y - 1970)+(y - 1) / 4 - (y - 1) / 100+(y - 1) / 400:=wrap_id (by omega) (by omega)
 have e10:wrapI .i64 (365*(y - 1970)+(y - 1) / 4 - (y - 1) / 100+(y - 1) / 400 - 477)=ydS y:=by unfold ydS;exact wrap_id (by omega) (by omega)
 rw [call_385]
 simp -implicitDefEqProofs only [go_sem,simprocAttr,Tryz.f385,e1,e2,e3,e4,e5,e6,e7,e8,e9,e10]
theorem yd_lt {y:Int} (h:y≤9999):ydS (y+1)≤2932897:=by
 have:=yd_mono (y:=y+1) (z:=9999+1) (by omega)
 rw [yd_top] at this
 omega
theorem l_dateOf0 (d rest z:Int) (h1:ydS z≤d) (h2:d < ydS (z+1)) (hz:z≤9999) (ks:List It):∀ (m:Nat) (y:Int) (B:Code),Loop Tryz.f301 0 B→y+m=z→1970≤y →
  RL K (.run 301 0 (.code B::.lp B (some ([2,3,4,5],[])) 1::.blk 0 1::ks) [(2,.ptr 0 0),(3,I d),(4,I rest),(5,I y)] [.cells [I 0,I 0,I 0,I 0,I 0,I 0]]) =
  R K (.run 301 0 ks [(2,.ptr 0 0),(3,I d),(4,I rest),(5,I z)] [.cells [I 0,I 0,I 0,I 0,I 0,I 0]])
 | 0,y,B,hB,hm,hy=>by
  have hzy:y=z:=by omega
  subst hzy
  have e1:wrapI .i64 (y+1)=y+1:=wrap_id (by omega) (by omega)
  have e2:=c_yd (y+1) (by omega) (by omega)
  have e3:decide (ydS (y+1)≤d)=false:=by simp;omega
  unfold Loop at hB
  simp -implicitDefEqProofs only [go_sem,simprocAttr,Tryz.f301,loopOf] at hB
  subst hB
  rw [RL_eq]
  simp -implicitDefEqProofs only [go_sem,simprocAttr,e1,e2,e3]
 | m+1,y,B,hB,hm,hy=>by
  have hB':=hB
  have e1:wrapI .i64 (y+1)=y+1:=wrap_id (by omega) (by omega)
  have e2:=c_yd (y+1) (by omega) (by omega)
  have e3:decide (ydS (y+1)≤d)=true:=by
   have:=yd_mono (y:=y+1) (z:=z) (by omega)
   simp;omega
  have ih:=l_dateOf0 d rest z h1 h2 hz ks m (y+1) B hB' (by omega) (by omega)
  unfold Loop at hB
  simp -implicitDefEqProofs only [go_sem,simprocAttr,Tryz.f301,loopOf] at hB
  subst hB
  rw [RL_eq]
  simp -implicitDefEqProofs only [go_sem,simprocAttr,e1,e2,e3,ih]
theorem md_wrap (y m r:Int) (h0:0≤r) (h1:r≤400):wrapI .i64 (r - mdS y m)=r - mdS y m:=by
 have:=md_pos y m
 exact wrap_id (by omega) (by omega)
theorem l_dateOf2 (y rest:Int) (h0:0≤y) (ks:List It):∀ (f:Nat) (m r:Int) (B:Code),Loop Tryz.f301 2 B→0≤r→r < restS f y m→r≤400→0≤m→m+f≤100 →
  RL K (.run 301 0 (.code B::.lp B (some ([2,3,4,5,6],[])) 1::.blk 2 1::ks) [(2,.ptr 0 0),(3,I r),(4,I rest),(5,I y),(6,I m)] [.cells [I 0,I 0,I 0,I 0,I 0,I 0]]) =
  R K (.run 301 0 ks [(2,.ptr 0 0),(3,I (monthUp f y m r).2),(4,I rest),(5,I y),(6,I (monthUp f y m r).1)] [.cells [I 0,I 0,I 0,I 0,I 0,I 0]])
 | 0,m,r,B,hB,hr,hl,_,_,_=>by simp only [restS] at hl;omega
 | f+1,m,r,B,hB,hr,hl,hr4,hm0,hm=>by
  have hB':=hB
  simp only [restS] at hl
  have e1:=c_md y m h0
  have e2:=md_wrap y m r hr hr4
  have e3:wrapI .i64 (m+1)=m+1:=wrap_id (by omega) (by omega)
  have hp:=md_pos y m
  by_cases h:mdS y m≤r
  ·have e4:decide (mdS y m≤r)=true:=by simp [h]
   have ih:=l_dateOf2 y rest h0 ks f (m+1) (r - mdS y m) B hB' (by omega) (by omega) (by omega) (by omega) (by omega)
   have e5:monthUp (f+1) y m r=monthUp f y (m+1) (r - mdS y m):=by simp only [monthUp];rw [if_pos h]
   rw [e5]
   unfold Loop at hB
   simp -implicitDefEqProofs only [go_sem,simprocAttr,Tryz.f301,loopOf] at hB
   subst hB
   rw [RL_eq]
   simp -implicitDefEqProofs only [go_sem,simprocAttr,e1,e2,e3,e4,ih]
  ·have e4:decide (mdS y m≤r)=false:=by simpa using h
   have e5:monthUp (f+1) y m r=(m,r):=by simp only [monthUp];rw [if_neg h]
   rw [e5]
   unfold Loop at hB
   simp -implicitDefEqProofs only [go_sem,simprocAttr,Tryz.f301,loopOf] at hB
   subst hB
   rw [RL_eq]
   simp -implicitDefEqProofs only [go_sem,simprocAttr,e1,e4]
theorem c_dateOf (n:Int) (h0:0≤n) (h1:n≤253402300799):R K (.call 301 [I n] [])=some (.agg ((dateS n).map I),[]):=by
 have hb:=date_bounds h0 h1
 have hs:=year_spec (d:=n / 86400) (by omega)
 have hlow:=year_low (d:=n / 86400) (by omega)
 have hlen:=yd_next (yearS (n / 86400))
 have hlp:=len_pos (yearS (n / 86400))
 have e1:wrapI .i64 (n.tdiv 86400)=n / 86400:=by rw [td _ _ h0];exact wrap_id (by omega) (by omega)
 have e2:n.tmod 86400=n % 86400:=tm _ _ h0
 have e3:wrapI .i64 ((n / 86400).tdiv 366)=n / 86400 / 366:=by rw [td _ _ (by omega)];exact wrap_id (by omega) (by omega)
 have e4:wrapI .i64 (1970+n / 86400 / 366)=1970+n / 86400 / 366:=wrap_id (by omega) (by omega)
 have e5:=c_yd (yearS (n / 86400)) (by omega) (by omega)
 have e6:wrapI .i64 (n / 86400 - ydS (yearS (n / 86400)))=n / 86400 - ydS (yearS (n / 86400)):=wrap_id (by omega) (by omega)
 have e7:wrapI .i64 ((ymS n).2+1)=(ymS n).2+1:=by have:=md_pos (yearS (n / 86400)) (ymS n).1;exact wrap_id (by omega) (by omega)
 have e8:wrapI .i64 ((n % 86400).tdiv 3600)=n % 86400 / 3600:=by rw [td _ _ (by omega)];exact wrap_id (by omega) (by omega)
 have e9:(n % 86400).tmod 3600=n % 86400 % 3600:=tm _ _ (by omega)
 have e10:wrapI .i64 ((n % 86400 % 3600).tdiv 60)=n % 86400 % 3600 / 60:=by rw [td _ _ (by omega)];exact wrap_id (by omega) (by omega)
 have e11:(n % 86400).tmod 60=n % 86400 % 60:=tm _ _ (by omega)
 have hm:monthUp 12 (yearS (n / 86400)) 1 (n / 86400 - ydS (yearS (n / 86400)))=ymS n:=rfl
 rw [call_301]
 simp -implicitDefEqProofs only [go_sem,simprocAttr,Tryz.f301,e1,e2,e3,e4]
 rw [l_dateOf0 (n / 86400) (n % 86400) (yearS (n / 86400)) hs.2.1 hs.2.2 hb.2.1 _ (yearS (n / 86400) - (1970+n / 86400 / 366)).toNat _ _ ?_ (by omega) (by omega)]
 ·simp -implicitDefEqProofs only [go_sem,simprocAttr,e5,e6]
  rw [l_dateOf2 (yearS (n / 86400)) (n % 86400) (by omega) _ 12 1 _ _ ?_ (by omega) (by rw [rest_len];omega) (by omega) (by omega) (by omega),hm]
  ·simp -implicitDefEqProofs only [go_sem,simprocAttr,e7,e8,e9,e10,e11]
   rfl
  ·rfl
 ·rfl
theorem l_parts0 (d n z:Int) (h1:ydS z≤d) (h2:d < ydS (z+1)) (hz:z≤9999) (hd:0≤d∧d≤3000000) (ks:List It):∀ (m:Nat) (y:Int) (B:Code),Loop Tryz.f388 0 B→y+m=z→1970≤y →
  RL K (.run 388 0 (.code B::.lp B (some ([0,2,3,4,5],[])) 1::.blk 0 1::ks) [(0,I n),(2,.ptr 0 0),(3,I (d - ydS y)),(4,I y),(5,I 1)] [.cells [I 0,I 0,I 0,I 0,I 0,I 0]]) =
  R K (.run 388 0 ks [(0,I n),(2,.ptr 0 0),(3,I (d - ydS z)),(4,I z),(5,I 1)] [.cells [I 0,I 0,I 0,I 0,I 0,I 0]])
 | 0,y,B,hB,hm,hy=>by
  have hzy:y=z:=by omega
  subst hzy
  have e2:=r_yearDays y (by omega)
  have e3:decide (lenS y≤d - ydS y)=false:=by have:=yd_next y;simp;omega
  unfold Loop at hB
  simp -implicitDefEqProofs only [go_sem,simprocAttr,Tryz.f388,loopOf] at hB
  subst hB
  rw [RL_eq]
  simp -implicitDefEqProofs only [go_sem,simprocAttr,e2,e3]
 | m+1,y,B,hB,hm,hy=>by
  have hB':=hB
  have e1:wrapI .i64 (y+1)=y+1:=wrap_id (by omega) (by omega)
  have e2:=r_yearDays y (by omega)
  have en:=yd_next y
  have el:=len_pos y
  have em:=yd_mono (y:=y+1) (z:=z) (by omega)
  have e3:decide (lenS y≤d - ydS y)=true:=by rw [decide_eq_true_eq];omega
  have e0:=yd_mono (y:=1970) (z:=y) hy
  rw [yd0] at e0
  have e4:wrapI .i64 (d - ydS y - lenS y)=d - ydS (y+1):=by rw [wrap_id (by omega) (by omega)];omega
  have ih:=l_parts0 d n z h1 h2 hz hd ks m (y+1) B hB' (by omega) (by omega)
  unfold Loop at hB
  simp -implicitDefEqProofs only [go_sem,simprocAttr,Tryz.f388,loopOf] at hB
  subst hB
  rw [RL_eq]
  simp -implicitDefEqProofs only [go_sem,simprocAttr,e1,e2,e3,e4,ih]
theorem l_parts2 (y n:Int) (h0:0≤y) (ks:List It):∀ (f:Nat) (m r:Int) (B:Code),Loop Tryz.f388 2 B→0≤r→r < restS f y m→r≤400→0≤m→m+f≤100 →
  RL K (.run 388 0 (.code B::.lp B (some ([0,2,3,4,5],[])) 1::.blk 2 1::ks) [(0,I n),(2,.ptr 0 0),(3,I r),(4,I y),(5,I m)] [.cells [I 0,I 0,I 0,I 0,I 0,I 0]]) =
  R K (.run 388 0 ks [(0,I n),(2,.ptr 0 0),(3,I (monthUp f y m r).2),(4,I y),(5,I (monthUp f y m r).1)] [.cells [I 0,I 0,I 0,I 0,I 0,I 0]])
 | 0,m,r,B,hB,hr,hl,_,_,_=>by simp only [restS] at hl;omega
 | f+1,m,r,B,hB,hr,hl,hr4,hm0,hm=>by
  have hB':=hB
  simp only [restS] at hl
  have e1:=r_md y m h0
  have e2:=md_wrap y m r hr hr4
  have e3:wrapI .i64 (m+1)=m+1:=wrap_id (by omega) (by omega)
  have hp:=md_pos y m
  by_cases h:mdS y m≤r
  ·have e4:decide (mdS y m≤r)=true:=by simp [h]
   have ih:=l_parts2 y n h0 ks f (m+1) (r - mdS y m) B hB' (by omega) (by omega) (by omega) (by omega) (by omega)
   have e5:monthUp (f+1) y m r=monthUp f y (m+1) (r - mdS y m):=by simp only [monthUp];rw [if_pos h]
   rw [e5]
   unfold Loop at hB
   simp -implicitDefEqProofs only [go_sem,simprocAttr,Tryz.f388,loopOf] at hB
   subst hB
   rw [RL_eq]
   simp -implicitDefEqProofs only [go_sem,simprocAttr,e1,e2,e3,e4,ih]
  ·have e4:decide (mdS y m≤r)=false:=by simpa using h
   have e5:monthUp (f+1) y m r=(m,r):=by simp only [monthUp];rw [if_neg h]
   rw [e5]
   unfold Loop at hB
   simp -implicitDefEqProofs only [go_sem,simprocAttr,Tryz.f388,loopOf] at hB
   subst hB
   rw [RL_eq]
   simp -implicitDefEqProofs only [go_sem,simprocAttr,e1,e4]
theorem r_parts (n:Int) (h0:0≤n) (h1:n≤253402300799):R K (.call 388 [I n] [])=some (.agg ((dateS n).reverse.map I),[]):=by
 have hb:=date_bounds h0 h1
 have hs:=year_spec (d:=n / 86400) (by omega)
 have hlen:=yd_next (yearS (n / 86400))
 have hlp:=len_pos (yearS (n / 86400))
 have e1:wrapI .i64 (n.tdiv 86400)=n / 86400:=by rw [td _ _ h0];exact wrap_id (by omega) (by omega)
 have e7:wrapI .i64 ((ymS n).2+1)=(ymS n).2+1:=by have:=md_pos (yearS (n / 86400)) (ymS n).1;exact wrap_id (by omega) (by omega)
 have e8:n.tmod 60=n % 86400 % 60:=by rw [tm _ _ h0];omega
 have e9:wrapI .i64 (n.tdiv 60)=n / 60:=by rw [td _ _ h0];exact wrap_id (by omega) (by omega)
 have e10:(n / 60).tmod 60=n % 86400 % 3600 / 60:=by rw [tm _ _ (by omega)];omega
 have e11:wrapI .i64 (n.tdiv 3600)=n / 3600:=by rw [td _ _ h0];exact wrap_id (by omega) (by omega)
 have e12:(n / 3600).tmod 24=n % 86400 / 3600:=by rw [tm _ _ (by omega)];omega
 have hm:monthUp 12 (yearS (n / 86400)) 1 (n / 86400 - ydS (yearS (n / 86400)))=ymS n:=rfl
 have e13:n / 86400=n / 86400 - ydS 1970:=by rw [yd0];omega
 rw [call_388]
 simp -implicitDefEqProofs only [go_sem,simprocAttr,Tryz.f388,e1]
 have l0:=l_parts0 (n / 86400) n (yearS (n / 86400)) hs.2.1 hs.2.2 hb.2.1 ⟨by omega,by omega⟩
 rw [show ((.int .i64 (n / 86400)):AV)=I (n / 86400 - ydS 1970) from congrArg I e13]
 rw [l0 _ (yearS (n / 86400) - 1970).toNat 1970 _ ?_ (by omega) (by omega)]
 ·simp -implicitDefEqProofs only [go_sem,simprocAttr]
  rw [l_parts2 (yearS (n / 86400)) n (by omega) _ 12 1 _ _ ?_ (by omega) (by rw [rest_len];omega) (by omega) (by omega) (by omega),hm]
  ·simp -implicitDefEqProofs only [go_sem,simprocAttr,e7,e8,e9,e10,e11,e12]
   rfl
  ·rfl
 ·rfl
theorem ahead_bounds (y:Int):∀ k:Nat,0≤aheadS k y∧aheadS k y≤31*k
 | 0=>by simp [aheadS]
 | k+1=>by
  have ih:=ahead_bounds y k
  have:=md_pos y ((k+1:Nat):Int)
  simp only [aheadS]
  omega
theorem l_Date (y m h mi s base:Int) (h0:0≤y) (hm1:1≤m) (hm2:m≤12) (hb:0≤base∧base≤3000000) (ks:List It):∀ (j k:Nat) (B:Code),Loop Tryz.f467 0 B→((k+j+1:Nat):Int)=m →
  RL K (.run 467 0 (.code B::.lp B (some ([0,1,3,4,5,12,13,14],[])) 1::.blk 0 1::ks) [(0,I y),(1,I m),(3,I h),(4,I mi),(5,I s),(12,.ptr 0 0),(13,I (base+aheadS k y)),(14,I ((k+1:Nat):Int))] [.cells [I 0,I 0,.str []]]) =
  R K (.run 467 0 ks [(3,I h),(4,I mi),(5,I s),(12,.ptr 0 0),(13,I (base+aheadS (m - 1).toNat y))] [.cells [I 0,I 0,.str []]])
 | 0,k,B,hB,hj=>by
  have e1:decide (((k+1:Nat):Int) < m)=false:=by simp;omega
  have e2:(m - 1).toNat=k:=by omega
  rw [e2]
  unfold Loop at hB
  simp -implicitDefEqProofs only [go_sem,simprocAttr,Tryz.f467,loopOf] at hB
  subst hB
  rw [RL_eq]
  simp -implicitDefEqProofs only [go_sem,simprocAttr,e1]
 | j+1,k,B,hB,hj=>by
  have hB':=hB
  have e1:decide (((k+1:Nat):Int) < m)=true:=by rw [decide_eq_true_eq];omega
  have e2:=c_md y ((k+1:Nat):Int) h0
  have e3:wrapI .i64 (((k+1:Nat):Int)+1)=((k+1+1:Nat):Int):=next_id (i:=k+1) (n:=1000) (by omega) (by omega)
  have ha:=ahead_bounds y k
  have hp:=md_pos y ((k+1:Nat):Int)
  have e4:wrapI .i64 (base+aheadS k y+mdS y ((k+1:Nat):Int))=base+aheadS (k+1) y:=by
   rw [wrap_id (by omega) (by omega)];simp only [aheadS];omega
  have ih:=l_Date y m h mi s base h0 hm1 hm2 hb ks j (k+1) B hB' (by omega)
  unfold Loop at hB
  simp -implicitDefEqProofs only [go_sem,simprocAttr,Tryz.f467,loopOf] at hB
  subst hB
  rw [RL_eq]
  simp -implicitDefEqProofs only [go_sem,simprocAttr,e1,e2,e3,e4,ih]
theorem l_Dated0 (y m h mi s base:Int) (h0:1970≤y) (hy:y≤9999) (hb:0≤base∧base≤100) (ks:List It):∀ (j:Nat) (k:Int) (B:Code),Loop Tryz.f470 0 B→k+j=y→1970≤k →
  RL K (.run 470 0 (.code B::.lp B (some ([0,1,3,4,5,12,13,14],[])) 1::.blk 0 1::ks) [(0,I y),(1,I m),(3,I h),(4,I mi),(5,I s),(12,.ptr 0 0),(13,I (base+ydS k)),(14,I k)] [.cells [I 0,I 0,.str []]]) =
  R K (.run 470 0 ks [(0,I y),(1,I m),(3,I h),(4,I mi),(5,I s),(12,.ptr 0 0),(13,I (base+ydS y))] [.cells [I 0,I 0,.str []]])
 | 0,k,B,hB,hj,hk=>by
  have hky:k=y:=by omega
  subst hky
  have e1:decide (k < k)=false:=by simp
  unfold Loop at hB
  simp -implicitDefEqProofs only [go_sem,simprocAttr,Tryz.f470,loopOf] at hB
  subst hB
  rw [RL_eq]
  simp -implicitDefEqProofs only [go_sem,simprocAttr,e1]
 | j+1,k,B,hB,hj,hk=>by
  have hB':=hB
  have e1:decide (k < y)=true:=by rw [decide_eq_true_eq];omega
  have e2:=r_yearDays k (by omega)
  have e3:wrapI .i64 (k+1)=k+1:=wrap_id (by omega) (by omega)
  have en:=yd_next k
  have el:=len_pos k
  have et:=yd_lt (y:=k) (by omega)
  have e0:=yd_mono (y:=1970) (z:=k) hk
  rw [yd0] at e0
  have e4:wrapI .i64 (base+ydS k+lenS k)=base+ydS (k+1):=by
   rw [wrap_id (by omega) (by omega)];omega
  have ih:=l_Dated0 y m h mi s base h0 hy hb ks j (k+1) B hB' (by omega) (by omega)
  unfold Loop at hB
  simp -implicitDefEqProofs only [go_sem,simprocAttr,Tryz.f470,loopOf] at hB
  subst hB
  rw [RL_eq]
  simp -implicitDefEqProofs only [go_sem,simprocAttr,e1,e2,e3,e4,ih]
theorem l_Dated2 (y m h mi s base:Int) (h0:0≤y) (hm1:1≤m) (hm2:m≤12) (hb:0≤base∧base≤3000000) (ks:List It):∀ (j k:Nat) (B:Code),Loop Tryz.f470 2 B→((k+j+1:Nat):Int)=m →
  RL K (.run 470 0 (.code B::.lp B (some ([0,1,3,4,5,12,13,15],[])) 1::.blk 2 1::ks) [(0,I y),(1,I m),(3,I h),(4,I mi),(5,I s),(12,.ptr 0 0),(13,I (base+aheadS k y)),(15,I ((k+1:Nat):Int))] [.cells [I 0,I 0,.str []]]) =
  R K (.run 470 0 ks [(3,I h),(4,I mi),(5,I s),(12,.ptr 0 0),(13,I (base+aheadS (m - 1).toNat y))] [.cells [I 0,I 0,.str []]])
 | 0,k,B,hB,hj=>by
  have e1:decide (((k+1:Nat):Int) < m)=false:=by simp;omega
  have e2:(m - 1).toNat=k:=by omega
  rw [e2]
  unfold Loop at hB
  simp -implicitDefEqProofs only [go_sem,simprocAttr,Tryz.f470,loopOf] at hB
  subst hB
  rw [RL_eq]
  simp -implicitDefEqProofs only [go_sem,simprocAttr,e1]
 | j+1,k,B,hB,hj=>by
  have hB':=hB
  have e1:decide (((k+1:Nat):Int) < m)=true:=by rw [decide_eq_true_eq];omega
  have e2:=r_md y ((k+1:Nat):Int) h0
  have e3:wrapI .i64 (((k+1:Nat):Int)+1)=((k+1+1:Nat):Int):=next_id (i:=k+1) (n:=1000) (by omega) (by omega)
  have ha:=ahead_bounds y k
  have hp:=md_pos y ((k+1:Nat):Int)
  have e4:wrapI .i64 (base+aheadS k y+mdS y ((k+1:Nat):Int))=base+aheadS (k+1) y:=by
   rw [wrap_id (by omega) (by omega)];simp only [aheadS];omega
  have ih:=l_Dated2 y m h mi s base h0 hm1 hm2 hb ks j (k+1) B hB' (by omega)
  unfold Loop at hB
  simp -implicitDefEqProofs only [go_sem,simprocAttr,Tryz.f470,loopOf] at hB
  subst hB
  rw [RL_eq]
  simp -implicitDefEqProofs only [go_sem,simprocAttr,e1,e2,e3,e4,ih]
theorem wit_iff (x a b:Int):within x a b=true↔a≤x∧x≤b:=by simp [within]
theorem within_no {x a b:Int} (h:¬(a≤x∧x≤b)):within x a b=false:=by
 rw [Bool.eq_false_iff];exact fun e=>h ((wit_iff x a b).1 e)
theorem dateV_no {y m d h mi s:Int} (H:¬(1970≤y∧y≤9999∧1≤m∧m≤12∧1≤d∧d≤mdS y m∧0≤h∧h≤23∧0≤mi∧mi≤59∧0≤s∧s≤59)):dateV y m d h mi s=null:=if_neg H
theorem c_Date (y m d h mi s:Int):R K (.call 467 [I y,I m,I d,I h,I mi,I s] [])=some (enc (dateV y m d h mi s),[]):=by
 by_cases hy:¬(1970≤y∧y≤9999)
 ·rw [dateV_no (by omega)]
  have w:=within_no hy
  rw [call_467]
  simp -implicitDefEqProofs only [go_sem,simprocAttr,Tryz.f467,c_within,w]
  rfl
 have hy:=Decidable.not_not.1 hy
 have wy:=(wit_iff y 1970 9999).2 hy
 by_cases hm:¬(1≤m∧m≤12)
 ·rw [dateV_no (by omega)]
  have w:=within_no hm
  rw [call_467]
  simp -implicitDefEqProofs only [go_sem,simprocAttr,Tryz.f467,c_within,wy,w]
  rfl
 have hm:=Decidable.not_not.1 hm
 have wm:=(wit_iff m 1 12).2 hm
 have e1:=c_md y m (by omega)
 by_cases hd:¬(1≤d∧d≤mdS y m)
 ·rw [dateV_no (by omega)]
  have w:=within_no hd
  rw [call_467]
  simp -implicitDefEqProofs only [go_sem,simprocAttr,Tryz.f467,c_within,wy,wm,e1,w]
  rfl
 have hd:=Decidable.not_not.1 hd
 have wd:=(wit_iff d 1 (mdS y m)).2 hd
 by_cases hh:¬(0≤h∧h≤23)
 ·rw [dateV_no (by omega)]
  have w:=within_no hh
  rw [call_467]
  simp -implicitDefEqProofs only [go_sem,simprocAttr,Tryz.f467,c_within,wy,wm,e1,wd,w]
  rfl
 have hh:=Decidable.not_not.1 hh
 have wh:=(wit_iff h 0 23).2 hh
 by_cases hi:¬(0≤mi∧mi≤59)
 ·rw [dateV_no (by omega)]
  have w:=within_no hi
  rw [call_467]
  simp -implicitDefEqProofs only [go_sem,simprocAttr,Tryz.f467,c_within,wy,wm,e1,wd,wh,w]
  rfl
 have hi:=Decidable.not_not.1 hi
 have wi:=(wit_iff mi 0 59).2 hi
 by_cases hs:¬(0≤s∧s≤59)
 ·rw [dateV_no (by omega)]
  have w:=within_no hs
  rw [call_467]
  simp -implicitDefEqProofs only [go_sem,simprocAttr,Tryz.f467,c_within,wy,wm,e1,wd,wh,wi,w]
  rfl
 have hs:=Decidable.not_not.1 hs
 have ws:=(wit_iff s 0 59).2 hs
 have hv:dateV y m d h mi s=numberS 4 (daysS y m d*86400+h*3600+mi*60+s):=if_pos ⟨hy.1,hy.2,hm.1,hm.2,hd.1,hd.2,hh.1,hh.2,hi.1,hi.2,hs.1,hs.2⟩
 have e0:=yd_mono (y:=1970) (z:=y) hy.1
 rw [yd0] at e0
 have et:=yd_lt hy.2
 have en:=yd_next y
 have el:=len_pos y
 have em:=md_pos y m
 have ea:=ahead_bounds y (m - 1).toNat
 have e2:=c_yd y (by omega) (by omega)
 have e3:wrapI .i64 (ydS y+d)=ydS y+d:=wrap_id (by omega) (by omega)
 have e4:wrapI .i64 (ydS y+d - 1)=ydS y+d - 1+aheadS 0 y:=by rw [wrap_id (by omega) (by omega)];simp [aheadS]
 have e5:wrapI .i64 ((ydS y+d - 1+aheadS (m - 1).toNat y)*86400)=daysS y m d*86400:=by rw [wrap_id (by omega) (by omega)];unfold daysS;omega
 have e6:wrapI .i64 (h*3600)=h*3600:=wrap_id (by omega) (by omega)
 have e7:wrapI .i64 (daysS y m d*86400+h*3600)=daysS y m d*86400+h*3600:=wrap_id (by unfold daysS;omega) (by unfold daysS;omega)
 have e8:wrapI .i64 (mi*60)=mi*60:=wrap_id (by omega) (by omega)
 have e9:wrapI .i64 (daysS y m d*86400+h*3600+mi*60)=daysS y m d*86400+h*3600+mi*60:=wrap_id (by unfold daysS;omega) (by unfold daysS;omega)
 have e10:wrapI .i64 (daysS y m d*86400+h*3600+mi*60+s)=daysS y m d*86400+h*3600+mi*60+s:=wrap_id (by unfold daysS;omega) (by unfold daysS;omega)
 rw [hv]
 rw [call_467]
 simp -implicitDefEqProofs only [go_sem,simprocAttr,Tryz.f467,c_within,wy,wm,e1,wd,wh,wi,ws,e2,e3,e4]
 have ld:=l_Date y m h mi s (ydS y+d - 1) (by omega) hm.1 hm.2 ⟨by omega,by omega⟩
 have ld:=fun ks B hB=>ld ks (m - 1).toNat 0 B hB (by omega)
 rw [show ((0+1:Nat):Int)=1 from rfl] at ld
 rw [ld _ _ ?_]
 ·simp -implicitDefEqProofs only [go_sem,simprocAttr,e5,e6,e7,e8,e9,e10,c_number]
 ·rfl
theorem r_Dated (y m d h mi s:Int):R K (.call 470 [I y,I m,I d,I h,I mi,I s] [])=some (enc (dateV y m d h mi s),[]):=by
 by_cases hy:¬(1970≤y∧y≤9999)
 ·rw [dateV_no (by omega)]
  have w:=within_no hy
  rw [call_470]
  simp -implicitDefEqProofs only [go_sem,simprocAttr,Tryz.f470,r_within,w]
  rfl
 have hy:=Decidable.not_not.1 hy
 have wy:=(wit_iff y 1970 9999).2 hy
 by_cases hm:¬(1≤m∧m≤12)
 ·rw [dateV_no (by omega)]
  have w:=within_no hm
  rw [call_470]
  simp -implicitDefEqProofs only [go_sem,simprocAttr,Tryz.f470,r_within,wy,w]
  rfl
 have hm:=Decidable.not_not.1 hm
 have wm:=(wit_iff m 1 12).2 hm
 have e1:=r_md y m (by omega)
 by_cases hd:¬(1≤d∧d≤mdS y m)
 ·rw [dateV_no (by omega)]
  have w:=within_no hd
  rw [call_470]
  simp -implicitDefEqProofs only [go_sem,simprocAttr,Tryz.f470,r_within,wy,wm,e1,w]
  rfl
 have hd:=Decidable.not_not.1 hd
 have wd:=(wit_iff d 1 (mdS y m)).2 hd
 by_cases hh:¬(0≤h∧h≤23)
 ·rw [dateV_no (by omega)]
  have w:=within_no hh
  rw [call_470]
  simp -implicitDefEqProofs only [go_sem,simprocAttr,Tryz.f470,r_within,wy,wm,e1,wd,w]
  rfl
 have hh:=Decidable.not_not.1 hh
 have wh:=(wit_iff h 0 23).2 hh
 by_cases hi:¬(0≤mi∧mi≤59)
 ·rw [dateV_no (by omega)]
  have w:=within_no hi
  rw [call_470]
  simp -implicitDefEqProofs only [go_sem,simprocAttr,Tryz.f470,r_within,wy,wm,e1,wd,wh,w]
  rfl
 have hi:=Decidable.not_not.1 hi
 have wi:=(wit_iff mi 0 59).2 hi
 by_cases hs:¬(0≤s∧s≤59)
 ·rw [dateV_no (by omega)]
  have w:=within_no hs
  rw [call_470]
  simp -implicitDefEqProofs only [go_sem,simprocAttr,Tryz.f470,r_within,wy,wm,e1,wd,wh,wi,w]
  rfl
 have hs:=Decidable.not_not.1 hs
 have ws:=(wit_iff s 0 59).2 hs
 have hv:dateV y m d h mi s=numberS 4 (daysS y m d*86400+h*3600+mi*60+s):=if_pos ⟨hy.1,hy.2,hm.1,hm.2,hd.1,hd.2,hh.1,hh.2,hi.1,hi.2,hs.1,hs.2⟩
 have e0:=yd_mono (y:=1970) (z:=y) hy.1
 rw [yd0] at e0
 have et:=yd_lt hy.2
 have en:=yd_next y
 have el:=len_pos y
 have em:=md_pos y m
 have ea:=ahead_bounds y (m - 1).toNat
 have e4:wrapI .i64 (d - 1)=d - 1+ydS 1970:=by rw [wrap_id (by omega) (by omega),yd0];omega
 have e5:d - 1+ydS y=d - 1+ydS y+aheadS 0 y:=by simp [aheadS]
 have e6:wrapI .i64 ((d - 1+ydS y+aheadS (m - 1).toNat y)*24)=daysS y m d*24:=by rw [wrap_id (by omega) (by omega)];unfold daysS;omega
 have e7:wrapI .i64 (daysS y m d*24+h)=daysS y m d*24+h:=wrap_id (by unfold daysS;omega) (by unfold daysS;omega)
 have e8:wrapI .i64 ((daysS y m d*24+h)*60)=daysS y m d*1440+h*60:=by rw [wrap_id (by unfold daysS;omega) (by unfold daysS;omega)];omega
 have e9:wrapI .i64 (daysS y m d*1440+h*60+mi)=daysS y m d*1440+h*60+mi:=wrap_id (by unfold daysS;omega) (by unfold daysS;omega)
 have e10:wrapI .i64 ((daysS y m d*1440+h*60+mi)*60)=daysS y m d*86400+h*3600+mi*60:=by rw [wrap_id (by unfold daysS;omega) (by unfold daysS;omega)];omega
 have e11:wrapI .i64 (daysS y m d*86400+h*3600+mi*60+s)=daysS y m d*86400+h*3600+mi*60+s:=wrap_id (by unfold daysS;omega) (by unfold daysS;omega)
 rw [hv]
 rw [call_470]
 simp -implicitDefEqProofs only [go_sem,simprocAttr,Tryz.f470,r_within,wy,wm,e1,wd,wh,wi,ws,e4]
 have l0:=l_Dated0 y m h mi s (d - 1) hy.1 hy.2 ⟨by omega,by omega⟩
 rw [l0 _ (y - 1970).toNat 1970 _ ?_ (by omega) (by omega)]
 ·simp -implicitDefEqProofs only [go_sem,simprocAttr]
  rw [e5]
  have l2:=l_Dated2 y m h mi s (d - 1+ydS y) (by omega) hm.1 hm.2 ⟨by omega,by omega⟩
  have l2:=fun ks B hB=>l2 ks (m - 1).toNat 0 B hB (by omega)
  rw [show ((0+1:Nat):Int)=1 from rfl] at l2
  rw [l2 _ _ ?_]
  ·simp -implicitDefEqProofs only [go_sem,simprocAttr,e6,e7,e8,e9,e10,e11,r_moment]
  ·rfl
 ·rfl
def boolV (b:Bool):Val:=⟨1,if b=true then 1 else 0,[]⟩
def textS (s:List UInt8):Val:=plainV ⟨3,0,s⟩
theorem plain_len (v:Val) (h:(plainV v).k=3):(plainV v)=v∧v.s.length≤100∧ok7 v.s=true:=by
 unfold plainV at h ⊢
 split at h
 ·rename_i hr
  have hk:v.k=3:=by simpa [hr] using h
  simp only [rightS,Bool.and_eq_true,decide_eq_true_eq] at hr
  obtain ⟨h1,h2,h3⟩:=hr
  refine ⟨by simp [rightS,h1,h2,h3],h2,?_⟩
  simpa [rangeS,hk] using h3
 ·simp [null] at h
theorem within_iff (n a b:Int):within n a b=true↔a≤n∧n≤b:=by simp [within]
theorem right_bounds (v:Val):let p:=plainV v;(0≤p.k∧p.k≤4)∧(-999999999999999≤p.n∧p.n≤999999999999999)∧p.s.length≤100∧(p.k≠3→p.s=[])∧(p.k=1→p.n=0∨p.n=1)∧(p.k=0→p.n=0)∧(p.k=3→p.n=0)∧ok7 p.s=true∧(p.k=4→0≤p.n∧p.n≤253402300799):=by
 intro p
 by_cases hr:rightS v=true
 ·have hp:p=v:=by simp [p,plainV,hr]
  rw [hp]
  have hf:=(fault_right v).2 hr
  unfold faultS at hf
  simp only [rightS,Bool.and_eq_true,decide_eq_true_eq] at hr
  obtain ⟨h1,h2,h3⟩:=hr
  unfold rangeS at h3
  unfold formS at h1
  by_cases k0:v.k=0
  ·simp [k0] at h1 h3
   refine ⟨by omega,by omega,by simp [h1.2],by simp [h1.2],by omega,by omega,by omega,by simpa using h3,by omega⟩
  ·by_cases k3:v.k=3
   ·simp [k3] at h1 h3
    exact ⟨by omega,by omega,h2,by simp [k3],by omega,by omega,by omega,h3,by omega⟩
   ·simp [k0,k3] at h1
    obtain ⟨h4,h5⟩:=h1
    rw [within_iff] at h4
    have hk:v.k=1∨v.k=2∨v.k=4:=by omega
    rw [h5] at h3 ⊢
    rcases hk with hk | hk | hk<;>simp [hk,within_iff] at h3<;>(refine ⟨by omega,by omega,by simp,by simp,by omega,by omega,by omega,rfl,by omega⟩)
 ·have hp:p=null:=by simp [p,plainV,hr]
  rw [hp]
  simp [null,ok7]
theorem ascii_ok7 {s:List UInt8} (h:ok7 s=true):ascii s=true:=by
 simp only [ascii,ok7,List.all_eq_true,Bool.and_eq_true,decide_eq_true_eq] at h ⊢
 intro x hx
 have:=(h x hx).2
 omega
theorem plain3 (v:Val) (h:(plainV v).k=3):(plainV v).s.length≤100∧ascii (plainV v).s=true:=by
 obtain ⟨h1,h2,h3⟩:=plain_len v h
 rw [h1]
 exact ⟨h2,ascii_ok7 h3⟩
theorem dec_first (u:Nat):∃ c r,Lib.decDigits u=c::r∧48≤c.toNat∧c.toNat≤57:=by
 induction u using Nat.strongRecOn with
 | _ u ih =>
  by_cases h:u < 10
  ·refine ⟨UInt8.ofNat (48+u),[],?_,?_,?_⟩
   ·rw [Lib.decDigits,dif_pos h]
   ·have:(UInt8.ofNat (48+u)).toNat=48+u:=by simp [UInt8.toNat_ofNat'];omega
    omega
   ·have:(UInt8.ofNat (48+u)).toNat=48+u:=by simp [UInt8.toNat_ofNat'];omega
    omega
  ·obtain ⟨c,r,e,h1,h2⟩:=ih (u / 10) (by omega)
   exact ⟨c,r++[UInt8.ofNat (48+u % 10)],by rw [Lib.decDigits,dif_neg h,e];rfl,h1,h2⟩
theorem itoa_first (n:Int):∃ c r,Lib.itoa n=c::r∧(c=45∨(48≤c.toNat∧c.toNat≤57)):=by
 unfold Lib.itoa
 split
 ·exact ⟨45,_,rfl,.inl rfl⟩
 ·obtain ⟨c,r,e,h⟩:=dec_first n.toNat
  exact ⟨c,r,e,.inr h⟩
abbrev bNull:List UInt8:=[110,117,108,108]
abbrev bTrue:List UInt8:=[116,114,117,101]
abbrev bFalse:List UInt8:=[102,97,108,115,101]
theorem fmt_bool (b:Bool):Lib.formatBool b=if b=true then bTrue else bFalse:=by cases b<;>decide +kernel
def padS (n:Int) (d:Nat):List UInt8:=Lib.repeatL [48] (d - (Lib.itoa n).length)++Lib.itoa n
noncomputable def dtextS (n:Int):List UInt8:=padS (yearS (n / 86400)) 4++[45]++padS (ymS n).1 2++[45]++padS ((ymS n).2+1) 2++[84]++padS (n % 86400 / 3600) 2++[58]++padS (n % 86400 % 3600 / 60) 2++[58]++padS (n % 86400 % 60) 2
noncomputable def showS (v:Val):List UInt8 :=
 if (plainV v).k=1 then Lib.formatBool ((plainV v).n==1) else if (plainV v).k=2 then Lib.itoa (plainV v).n else if (plainV v).k=3 then [39]++Lib.replaceAll (plainV v).s [39] [39,39]++[39]
 else if (plainV v).k=4 then [64]++dtextS (plainV v).n else bNull
def atoiN (s:List UInt8):Option Int:=match Lib.atoiAll s with
 | .ok v=>some v
 | _=>none
def sixS (s:List UInt8):Option (Int×Int×Int×Int×Int×Int) :=
 match atoiN (cut s 0 4),atoiN (cut s 5 7),atoiN (cut s 8 10),atoiN (cut s 11 13),atoiN (cut s 14 16),atoiN (cut s 17 19) with
 | some a,some b,some c,some d,some e,some f=>some (a,b,c,d,e,f)
 | _,_,_,_,_,_=>none
noncomputable def dreadS (s:List UInt8):Val :=
 if s.length=19 then match sixS s with
  | some (a,b,c,d,e,f)=>if (dateV a b c d e f).k=0∨dtextS (dateV a b c d e f).n≠s then null else dateV a b c d e f
  | none=>null
 else null
noncomputable def candS (s:List UInt8):Val :=
 if s=bTrue∨s=bFalse then boolV (decide (s=bTrue))
 else if 2≤s.length∧s[0]? = some 39∧s[s.length - 1]? = some 39 then ⟨3,0,Lib.replaceAll (cut s 1 (s.length - 1)) [39,39] [39]⟩
 else if Lib.hasPrefix s [64]=true then dreadS (s.drop 1)
 else match atoiN s with
  | some n=>⟨2,n,[]⟩
  | none=>null
noncomputable def readS (s:List UInt8):Val×Int:=if rightS (candS s)=true∧showS (candS s)=s then (candS s,0) else (null,14)
noncomputable def candsS (s:List UInt8):List Val :=
 [null,boolV true,boolV false]++(match atoiN s with
  | some n=>[numberS 2 n]
  | none=>[])++(if 1 < s.length∧s[0]? = some 39 then [textS (Lib.replaceAll (cut s 1 (s.length - 1)) [39,39] [39])] else []) ++
 (if (dreadS (Lib.trimPrefix s [64])).k=4 then [dreadS (Lib.trimPrefix s [64])] else [])
noncomputable def readRS (s:List UInt8):Val×Int:=match (candsS s).find? fun v=>showS v==s with
 | some v=>(v,0)
 | none=>(null,14)
theorem plain_of_right {v:Val} (h:rightS v=true):plainV v=v:=by unfold plainV;exact if_pos h
theorem plain_null:plainV null=null:=by decide
theorem show_null:showS null=bNull:=by simp only [showS,plain_null];simp [null]
theorem right_bool (b:Bool):rightS (boolV b)=true:=by cases b<;>decide
theorem right_null:rightS null=true:=by decide
theorem show_bool (b:Bool):showS (boolV b)=if b=true then bTrue else bFalse:=by
 have:=plain_of_right (right_bool b)
 cases b
 ·simp only [showS,this];simp [boolV,fmt_bool]
 ·simp only [showS,this];simp [boolV,fmt_bool]
theorem number_cases (k n:Int):numberS k n=null∨(numberS k n=⟨k,n,[]⟩∧rightS ⟨k,n,[]⟩=true):=by
 unfold numberS plainV
 split
 ·rename_i h;exact .inr ⟨rfl,h⟩
 ·exact .inl rfl
theorem text_cases (s:List UInt8):textS s=null∨(textS s=⟨3,0,s⟩∧rightS ⟨3,0,s⟩=true):=by
 unfold textS plainV
 split
 ·rename_i h;exact .inr ⟨rfl,h⟩
 ·exact .inl rfl
theorem show_int {n:Int} (h:rightS ⟨2,n,[]⟩=true):showS ⟨2,n,[]⟩=Lib.itoa n:=by simp [showS,plain_of_right h]
theorem show_text {s:List UInt8} (h:rightS ⟨3,0,s⟩=true):showS ⟨3,0,s⟩=[39]++Lib.replaceAll s [39] [39,39]++[39]:=by simp [showS,plain_of_right h]
theorem date_cases (a b c d e f:Int):dateV a b c d e f=null∨((dateV a b c d e f).k=4∧(dateV a b c d e f).s=[]∧rightS (dateV a b c d e f)=true):=by
 unfold dateV
 split
 ·rcases number_cases 4 (daysS a b c*86400+d*3600+e*60+f) with h | ⟨h,h2⟩
  ·exact .inl h
  ·rw [h];exact .inr ⟨rfl,rfl,h2⟩
 ·exact .inl rfl
theorem dread_cases (s:List UInt8):dreadS s=null∨((dreadS s).k=4∧rightS (dreadS s)=true∧dtextS (dreadS s).n=s):=by
 unfold dreadS
 split
 ·split
  ·rename_i a b c d e f _
   split
   ·exact .inl rfl
   ·rename_i h
    rcases date_cases a b c d e f with h2 | h2
    ·rw [h2] at h;simp [null] at h
    ·exact .inr ⟨h2.1,h2.2.2,by simpa using (not_or.1 h).2⟩
  ·exact .inl rfl
 ·exact .inl rfl
theorem show_moment {v:Val} (hk:v.k=4) (hr:rightS v=true):showS v=64::dtextS v.n:=by
 simp [showS,plain_of_right hr,hk]
theorem atoi_null:atoiN bNull=none:=by decide +kernel
theorem cand_null:candS bNull=null:=by
 unfold candS
 rw [if_neg (by decide),if_neg (by decide),if_neg (by decide),atoi_null]
theorem pre_at (r:List UInt8):Lib.hasPrefix (64::r) [64]=true:=by simp [Lib.hasPrefix]
theorem pre_no (c:UInt8) (r:List UInt8) (h:c≠64):Lib.hasPrefix (c::r) [64]=false:=by
 have:(64==c)=false:=by simpa using Ne.symm h
 simp [Lib.hasPrefix,List.isPrefixOf,this]
theorem cands_cand {s:List UInt8} {v:Val} (hv:v∈candsS s) (hs:showS v=s):v=candS s∧rightS (candS s)=true:=by
 unfold candsS at hv
 simp only [List.mem_append,List.mem_cons,List.not_mem_nil,or_false] at hv
 have hn:v=null→v=candS s∧rightS (candS s)=true:=by
  rintro rfl
  rw [show_null] at hs
  rw [←hs,cand_null]
  exact ⟨rfl,right_null⟩
 rcases hv with (((rfl | rfl | rfl) | hv) | hv) | hv
 ·exact hn rfl
 ·rw [show_bool] at hs
  have hs:bTrue=s:=by simpa using hs
  have:candS s=boolV true:=by rw [←hs];unfold candS;rw [if_pos (by decide)];rfl
  rw [this];exact ⟨rfl,right_bool _⟩
 ·rw [show_bool] at hs
  have hs:bFalse=s:=by simpa using hs
  have:candS s=boolV false:=by rw [←hs];unfold candS;rw [if_pos (by decide)];rfl
  rw [this];exact ⟨rfl,right_bool _⟩
 ·cases ha:atoiN s with
  | none=>rw [ha] at hv;simp at hv
  | some n =>
   rw [ha] at hv
   simp only [List.mem_cons,List.not_mem_nil,or_false] at hv
   subst hv
   rcases number_cases 2 n with h | ⟨h,hr⟩
   ·exact hn h
   ·rw [h] at hs ⊢
    rw [show_int hr] at hs
    obtain ⟨c,r,e,hc⟩:=itoa_first n
    rw [hs] at e
    have h45:(45:UInt8).toNat=45:=rfl
    have hc39:c≠39:=by
     rintro rfl
     rcases hc with hc | hc<;>simp at hc
    have hc64:c≠64:=by
     rintro rfl
     rcases hc with hc | hc<;>simp at hc
    have hct:c≠116:=by
     rintro rfl
     rcases hc with hc | hc<;>simp at hc
    have hcf:c≠102:=by
     rintro rfl
     rcases hc with hc | hc<;>simp at hc
    have:candS s=⟨2,n,[]⟩:=by
     unfold candS
     rw [ha,if_neg (by rw [e];simp [hct,hcf]),if_neg (by rw [e];simp [hc39]),if_neg (by rw [e,pre_no c r hc64];simp)]
    rw [this];exact ⟨rfl,hr⟩
 ·by_cases hq:1 < s.length∧s[0]? = some 39
  ·rw [if_pos hq] at hv
   simp only [List.mem_cons,List.not_mem_nil,or_false] at hv
   subst hv
   rcases text_cases (Lib.replaceAll (cut s 1 (s.length - 1)) [39,39] [39]) with h | ⟨h,hr⟩
   ·exact hn h
   ·rw [h] at hs ⊢
    rw [show_text hr] at hs
    have hlast:s[s.length - 1]? = some 39:=by
     rw [←hs]
     simp
    have hne:s[0]? = some 39:=hq.2
    have:candS s=⟨3,0,Lib.replaceAll (cut s 1 (s.length - 1)) [39,39] [39]⟩:=by
     unfold candS
     rw [if_neg (by rintro (rfl | rfl)<;>simp at hne),if_pos ⟨hq.1,hne,hlast⟩]
    rw [this];exact ⟨rfl,hr⟩
  ·rw [if_neg hq] at hv;simp at hv
 ·by_cases hm:(dreadS (Lib.trimPrefix s [64])).k=4
  ·rw [if_pos hm] at hv
   simp only [List.mem_cons,List.not_mem_nil,or_false] at hv
   rcases dread_cases (Lib.trimPrefix s [64]) with h | ⟨h1,h2,h3⟩
   ·rw [h] at hm;simp [null] at hm
   ·rw [←hv] at h1 h2 h3
    rw [show_moment h1 h2] at hs
    have e:Lib.trimPrefix s [64]=dtextS v.n:=h3.symm
    have:candS s=v:=by
     unfold candS
     rw [if_neg (by rw [←hs];simp),if_neg (by rw [←hs];simp),if_pos (by rw [←hs];exact pre_at _),hv,e,←hs]
     rfl
    rw [this];exact ⟨rfl,h2⟩
  ·rw [if_neg hm] at hv;simp at hv
theorem cand_cands {s:List UInt8} (hr:rightS (candS s)=true):candS s∈candsS s:=by
 by_cases h1:s=bTrue∨s=bFalse
 ·have e:candS s=boolV (decide (s=bTrue)):=by unfold candS;rw [if_pos h1]
  rw [e]
  unfold candsS
  cases decide (s=bTrue)<;>simp
 ·by_cases h2:2≤s.length∧s[0]? = some 39∧s[s.length - 1]? = some 39
  ·have e:candS s=⟨3,0,Lib.replaceAll (cut s 1 (s.length - 1)) [39,39] [39]⟩:=by unfold candS;rw [if_neg h1,if_pos h2]
   rw [e] at hr ⊢
   have:textS (Lib.replaceAll (cut s 1 (s.length - 1)) [39,39] [39])=⟨3,0,Lib.replaceAll (cut s 1 (s.length - 1)) [39,39] [39]⟩:=plain_of_right hr
   unfold candsS
   rw [if_pos (show 1 < s.length∧s[0]? = some 39 from ⟨h2.1,h2.2.1⟩),this]
   simp
  ·by_cases h3:Lib.hasPrefix s [64]=true
   ·have e:candS s=dreadS (s.drop 1):=by unfold candS;rw [if_neg h1,if_neg h2,if_pos h3]
    have et:Lib.trimPrefix s [64]=s.drop 1:=by unfold Lib.trimPrefix;rw [if_pos h3];rfl
    rw [e]
    rcases dread_cases (s.drop 1) with h | ⟨h4,_,_⟩
    ·rw [h];unfold candsS;simp
    ·unfold candsS
     rw [et,if_pos h4];simp
   ·cases ha:atoiN s with
    | none =>
     have e:candS s=null:=by unfold candS;rw [if_neg h1,if_neg h2,if_neg h3,ha]
     rw [e];unfold candsS;simp
    | some n =>
     have e:candS s=⟨2,n,[]⟩:=by unfold candS;rw [if_neg h1,if_neg h2,if_neg h3,ha]
     rw [e] at hr ⊢
     have:numberS 2 n=⟨2,n,[]⟩:=plain_of_right hr
     unfold candsS
     rw [ha]
     simp only [this];simp
theorem read_law (s:List UInt8):readRS s=readS s:=by
 unfold readRS
 cases hf:(candsS s).find? fun v=>showS v==s with
 | some v =>
  have h1:=List.mem_of_find?_eq_some hf
  have h2:=List.find?_some hf
  simp only [beq_iff_eq] at h2
  obtain ⟨rfl,hr⟩:=cands_cand h1 h2
  unfold readS
  rw [if_pos ⟨hr,h2⟩]
 | none =>
  unfold readS
  rw [if_neg]
  rintro ⟨hr,hs⟩
  have:=List.find?_eq_none.1 hf _ (cand_cands hr)
  simp [hs] at this
theorem plain_right (v:Val):rightS (plainV v)=true:=by
 unfold plainV
 split
 ·assumption
 ·exact right_null
theorem p_Itoa (n:Int) (h0:-9223372036854775808≤n) (h1:n≤9223372036854775807):R K (.call 206 [I n] [])=some (.str (Lib.itoa n),[]) :=
 R_prim (by show pItoa [I n]=_;simp only [pItoa];rw [if_pos (by simp [fits,h0,h1])])
theorem p_Bool (b:Bool):R K (.call 205 [.bool b] [])=some (.str (Lib.formatBool b),[]):=R_prim rfl
theorem p_Replace (s o n:List UInt8) (hs:s.length < 4294967281) (ho:1≤o.length) (hr:s.length+(s.length+1)*n.length≤140737488355328):R K (.call 207 [.str s,.str o,.str n] [])=some (.str (Lib.replaceAll s o n),[]) :=
 R_prim (by
  show pReplaceAll [.str s,.str o,.str n]=_
  simp only [pReplaceAll]
  have h1:Lib.countB ⟨s.toArray⟩ ⟨o.toArray⟩≤s.length+1:=Lib.count_le s o
  have h2:Lib.countB ⟨s.toArray⟩ ⟨o.toArray⟩*n.length≤(s.length+1)*n.length:=Nat.mul_le_mul h1 (Nat.le_refl _)
  rw [if_pos (by simp only [Bool.and_eq_true,decide_eq_true_eq];omega)])
theorem replaceK_len (o n:List UInt8):∀ (k:Nat) (s:List UInt8),(Lib.replaceK o n k s).length≤s.length+k*n.length
 | 0,s=>by simp [Lib.replaceK]
 | k+1,s=>by
  simp only [Lib.replaceK]
  split
  ·omega
  ·have ih:=replaceK_len o n k (s.drop ((Lib.index s o).toNat+o.length))
   simp only [List.length_append,List.length_take,List.length_drop] at ih ⊢
   rw [Nat.succ_mul]
   omega
theorem replace_len (s o n:List UInt8):(Lib.replaceAll s o n).length≤s.length+(s.length+1)*n.length:=by
 unfold Lib.replaceAll Lib.replace
 split
 ·omega
 ·have h1:=replaceK_len o n (Lib.replaceNum s o (-1)) s
  have h2:Lib.replaceNum s o (-1)≤s.length+1:=by
   unfold Lib.replaceNum
   rw [if_pos (.inl (by omega))]
   exact Lib.count_le s o
  have h3:Lib.replaceNum s o (-1)*n.length≤(s.length+1)*n.length:=Nat.mul_le_mul h2 (Nat.le_refl _)
  omega
theorem nDigits_le:∀ (d u:Nat),u < 10 ^ (d+1)→Lib.nDigits u≤d+1
 | 0,u,h=>by rw [Lib.nDigits_small (by simpa using h)];omega
 | d+1,u,h=>by
  by_cases hu:u < 10
  ·rw [Lib.nDigits_small hu];omega
  ·rw [Lib.nDigits_big hu]
   have:=nDigits_le d (u / 10) (by rw [Nat.pow_succ] at h;omega)
   omega
theorem itoa_len {n:Int} (d:Nat) (h0:0≤n) (h:n < 10 ^ (d+1)):(Lib.itoa n).length≤d+1:=by
 obtain ⟨u,rfl⟩:∃ u:Nat,n=u:=⟨n.toNat,by omega⟩
 rw [Lib.itoa_nonneg,Lib.decDigits_length]
 exact nDigits_le d u (by exact_mod_cast h)
theorem pad_len {n:Int} {d:Nat} (h:(Lib.itoa n).length≤d):(padS n d).length=d:=by
 unfold padS
 rw [List.length_append,Lib.repeatL_length,List.length_singleton]
 omega
theorem c_padded (n:Int) (d:Nat) (h0:0≤n) (h1:n≤1000000) (hd:d≤100):R K (.call 302 [I n,I (d:Int)] [])=some (.str (padS n d),[]):=by
 have hl:=Lib.itoa_length_le n (by omega) (by omega)
 have e1:=p_Itoa n (by omega) (by omega)
 have e2:wrapI .i64 ((d:Int) - ((Lib.itoa n).length:Int))=(d:Int) - ((Lib.itoa n).length:Int):=wrap_id (by omega) (by omega)
 have e3:(if (d:Int) - ((Lib.itoa n).length:Int) < 0 then 0 else (d:Int) - ((Lib.itoa n).length:Int))=((d - (Lib.itoa n).length:Nat):Int):=by split<;>omega
 have e4:=p_Repeat [48] (d - (Lib.itoa n).length) (by omega) (by simp)
 have e5:((Lib.repeatL [48] (d - (Lib.itoa n).length)).length+(Lib.itoa n).length≤strMax)=True:=by
  rw [Lib.repeatL_length];unfold strMax;simp;omega
 rw [call_302]
 simp -implicitDefEqProofs only [go_sem,simprocAttr,Tryz.f302,e1,e2,e3,e4,e5]
 rfl
theorem r_padded (n:Int) (d:Nat) (h0:0≤n) (h1:n≤1000000) (hd:d≤100):R K (.call 389 [I n,I (d:Int)] [])=some (.str (padS n d),[]):=by
 have hl:=Lib.itoa_length_le n (by omega) (by omega)
 have e1:=p_Itoa n (by omega) (by omega)
 have e2:wrapI .i64 ((d:Int) - ((Lib.itoa n).length:Int))=(d:Int) - ((Lib.itoa n).length:Int):=wrap_id (by omega) (by omega)
 have e3:(if (d:Int) - ((Lib.itoa n).length:Int) < 0 then 0 else (d:Int) - ((Lib.itoa n).length:Int))=((d - (Lib.itoa n).length:Nat):Int):=by split<;>omega
 have e4:=p_Repeat [48] (d - (Lib.itoa n).length) (by omega) (by simp)
 have e5:((Lib.repeatL [48] (d - (Lib.itoa n).length)).length+(Lib.itoa n).length≤strMax)=True:=by
  rw [Lib.repeatL_length];unfold strMax;simp;omega
 rw [call_389]
 simp -implicitDefEqProofs only [go_sem,simprocAttr,Tryz.f389,e1,e2,e3,e4,e5]
 rfl
theorem small_str (k:Nat) (h:k≤1000):(k≤strMax)=True:=by unfold strMax;simp;omega
theorem date_lens {n:Int} (h0:0≤n) (h1:n≤253402300799):(padS (yearS (n / 86400)) 4).length=4∧(padS (ymS n).1 2).length=2∧(padS ((ymS n).2+1) 2).length=2∧(padS (n % 86400 / 3600) 2).length=2∧(padS (n % 86400 % 3600 / 60) 2).length=2∧(padS (n % 86400 % 60) 2).length=2:=by
 have hb:=date_bounds h0 h1
 have hm:=md_pos (yearS (n / 86400)) (ymS n).1
 exact ⟨pad_len (itoa_len 3 (by omega) (by omega)),pad_len (itoa_len 1 (by omega) (by omega)),pad_len (itoa_len 1 (by omega) (by omega)),pad_len (itoa_len 1 (by omega) (by omega)),pad_len (itoa_len 1 (by omega) (by omega)),pad_len (itoa_len 1 (by omega) (by omega))⟩
theorem dtext_len {n:Int} (h0:0≤n) (h1:n≤253402300799):(dtextS n).length=19:=by
 obtain ⟨l1,l2,l3,l4,l5,l6⟩:=date_lens h0 h1
 unfold dtextS
 simp only [List.length_append,l1,l2,l3,l4,l5,l6,List.length_cons,List.length_nil]
theorem c_dateText (n:Int) (h0:0≤n) (h1:n≤253402300799):R K (.call 208 [I n] [])=some (.str (dtextS n),[]):=by
 have hb:=date_bounds h0 h1
 have hm:=md_pos (yearS (n / 86400)) (ymS n).1
 have e1:=c_dateOf n h0 h1
 simp only [dateS,List.map_cons,List.map_nil] at e1
 have a1:=c_padded (yearS (n / 86400)) 4 (by omega) (by omega) (by omega)
 have a2:=c_padded (ymS n).1 2 (by omega) (by omega) (by omega)
 have a3:=c_padded ((ymS n).2+1) 2 (by omega) (by omega) (by omega)
 have a4:=c_padded (n % 86400 / 3600) 2 (by omega) (by omega) (by omega)
 have a5:=c_padded (n % 86400 % 3600 / 60) 2 (by omega) (by omega) (by omega)
 have a6:=c_padded (n % 86400 % 60) 2 (by omega) (by omega) (by omega)
 simp only [Int.cast_ofNat_Int] at a1 a2 a3 a4 a5 a6
 obtain ⟨l1,l2,l3,l4,l5,l6⟩:=date_lens h0 h1
 rw [call_208]
 simp -implicitDefEqProofs only [go_sem,simprocAttr,Tryz.f208,e1,a1,a2,a3,a4,a5,a6,l1,l2,l3,l4,l5,l6,small_str]
 rfl
theorem r_MomentText (n:Int) (h0:0≤n) (h1:n≤253402300799):R K (.call 305 [I n] [])=some (.str (dtextS n),[]):=by
 have hb:=date_bounds h0 h1
 have hm:=md_pos (yearS (n / 86400)) (ymS n).1
 have e1:=r_parts n h0 h1
 simp only [dateS,List.reverse_cons,List.reverse_nil,List.nil_append,List.cons_append,List.map_cons,List.map_nil] at e1
 have a1:=r_padded (yearS (n / 86400)) 4 (by omega) (by omega) (by omega)
 have a2:=r_padded (ymS n).1 2 (by omega) (by omega) (by omega)
 have a3:=r_padded ((ymS n).2+1) 2 (by omega) (by omega) (by omega)
 have a4:=r_padded (n % 86400 / 3600) 2 (by omega) (by omega) (by omega)
 have a5:=r_padded (n % 86400 % 3600 / 60) 2 (by omega) (by omega) (by omega)
 have a6:=r_padded (n % 86400 % 60) 2 (by omega) (by omega) (by omega)
 simp only [Int.cast_ofNat_Int] at a1 a2 a3 a4 a5 a6
 obtain ⟨l1,l2,l3,l4,l5,l6⟩:=date_lens h0 h1
 rw [call_305]
 simp -implicitDefEqProofs only [go_sem,simprocAttr,Tryz.f305,e1,a1,a2,a3,a4,a5,a6,l1,l2,l3,l4,l5,l6,small_str]
 rfl
theorem plain_moment {v:Val} (h:(plainV v).k=4):0≤(plainV v).n∧(plainV v).n≤253402300799:=by
 have hr:=plain_right v
 simp only [rightS,rangeS,Bool.and_eq_true,h] at hr
 have h2:=hr.2.2
 simp [within] at h2
 exact h2
theorem plain_kinds (v:Val):(plainV v).k=0∨(plainV v).k=1∨(plainV v).k=2∨(plainV v).k=3∨(plainV v).k=4:=by
 have hr:=plain_right v
 simp only [rightS,formS,Bool.and_eq_true] at hr
 have h1:=hr.1
 split at h1
 ·rename_i h;exact .inl h
 ·split at h1
  ·rename_i h;exact .inr (.inr (.inr (.inl h)))
  ·simp only [within,Bool.and_eq_true,decide_eq_true_eq] at h1;omega
theorem small_str2 (a b:Nat) (h:a+b≤100000):(a+b≤strMax)=True:=by unfold strMax;simp;omega
theorem c_Show (k n:Int) (s:List UInt8):R K (.call 117 [V k n s] [])=some (.str (showS ⟨k,n,s⟩),[]):=by
 generalize hv:(⟨k,n,s⟩:Val)=v
 have hp:=c_plain k n s
 rw [hv] at hp
 rcases plain_kinds v with h | h | h | h | h
 ·have e:showS v=bNull:=by simp [showS,h]
  rw [e]
  rw [call_117]
  simp -implicitDefEqProofs only [go_sem,simprocAttr,Tryz.f117,hp,h]
 ·have e:showS v=Lib.formatBool ((plainV v).n==1):=by simp [showS,h]
  rw [e]
  have hb:=p_Bool ((plainV v).n==1)
  rw [call_117]
  simp -implicitDefEqProofs only [go_sem,simprocAttr,Tryz.f117,hp,h,hb]
 ·have e:showS v=Lib.itoa (plainV v).n:=by simp [showS,h]
  rw [e]
  have hb:=right_bounds v
  have hi:=p_Itoa (plainV v).n (by have:=hb.2.1;omega) (by have:=hb.2.1;omega)
  rw [call_117]
  simp -implicitDefEqProofs only [go_sem,simprocAttr,Tryz.f117,hp,h,hi]
 ·have e:showS v=[39]++Lib.replaceAll (plainV v).s [39] [39,39]++[39]:=by simp [showS,h]
  rw [e]
  have hl:=(plain3 v h).1
  have hr:=p_Replace (plainV v).s [39] [39,39] (by omega) (by simp) (by simp;omega)
  have hn:=replace_len (plainV v).s [39] [39,39]
  simp only [List.length_cons,List.length_nil] at hn
  have q1:=small_str2 1 (Lib.replaceAll (plainV v).s [39] [39,39]).length (by omega)
  have q2:=small_str2 (Lib.replaceAll (plainV v).s [39] [39,39]).length 1 (by omega)
  have q3:=small_str2 ((Lib.replaceAll (plainV v).s [39] [39,39]).length+1) 1 (by omega)
  rw [call_117]
  simp -implicitDefEqProofs only [go_sem,simprocAttr,Tryz.f117,hp,h,hr,q1,q2,q3]
 ·have e:showS v=[64]++dtextS (plainV v).n:=by simp [showS,h]
  rw [e]
  have hb:=plain_moment h
  have hd:=c_dateText (plainV v).n hb.1 hb.2
  have hl:=dtext_len hb.1 hb.2
  rw [call_117]
  simp -implicitDefEqProofs only [go_sem,simprocAttr,Tryz.f117,hp,h,hd,hl,small_str]
theorem r_Shown (k n:Int) (s:List UInt8):R K (.call 213 [V k n s] [])=some (.str (showS ⟨k,n,s⟩),[]):=by
 generalize hv:(⟨k,n,s⟩:Val)=v
 have hp:=r_right k n s
 rw [hv] at hp
 rcases plain_kinds v with h | h | h | h | h
 ·have e:showS v=bNull:=by simp [showS,h]
  rw [e]
  rw [call_213]
  simp -implicitDefEqProofs only [go_sem,simprocAttr,Tryz.f213,hp,h]
 ·have e:showS v=Lib.formatBool ((plainV v).n==1):=by simp [showS,h]
  rw [e]
  have hb:=p_Bool ((plainV v).n==1)
  rw [call_213]
  simp -implicitDefEqProofs only [go_sem,simprocAttr,Tryz.f213,hp,h,hb]
 ·have e:showS v=Lib.itoa (plainV v).n:=by simp [showS,h]
  rw [e]
  have hb:=right_bounds v
  have hi:=p_Itoa (plainV v).n (by have:=hb.2.1;omega) (by have:=hb.2.1;omega)
  rw [call_213]
  simp -implicitDefEqProofs only [go_sem,simprocAttr,Tryz.f213,hp,h,hi]
 ·have e:showS v=[39]++Lib.replaceAll (plainV v).s [39] [39,39]++[39]:=by simp [showS,h]
  rw [e]
  have hl:=(plain3 v h).1
  have hr:=p_Replace (plainV v).s [39] [39,39] (by omega) (by simp) (by simp;omega)
  have hn:=replace_len (plainV v).s [39] [39,39]
  simp only [List.length_cons,List.length_nil] at hn
  have q1:=small_str2 1 (Lib.replaceAll (plainV v).s [39] [39,39]).length (by omega)
  have q2:=small_str2 (Lib.replaceAll (plainV v).s [39] [39,39]).length 1 (by omega)
  have q3:=small_str2 ((Lib.replaceAll (plainV v).s [39] [39,39]).length+1) 1 (by omega)
  rw [call_213]
  simp -implicitDefEqProofs only [go_sem,simprocAttr,Tryz.f213,hp,h,hr,q1,q2,q3]
 ·have e:showS v=[64]++dtextS (plainV v).n:=by simp [showS,h]
  rw [e]
  have hb:=plain_moment h
  have hd:=r_MomentText (plainV v).n hb.1 hb.2
  have hl:=dtext_len hb.1 hb.2
  rw [call_213]
  simp -implicitDefEqProofs only [go_sem,simprocAttr,Tryz.f213,hp,h,hd,hl,small_str]
theorem show_len (v:Val):(showS v).length≤1000:=by
 rcases plain_kinds v with h | h | h | h | h
 ·simp [showS,h]
 ·simp only [showS,h,if_true]
  cases (plainV v).n==1<;>decide
 ·simp only [showS,h]
  have hb:=right_bounds v
  have:=Lib.itoa_length_le (plainV v).n (by have:=hb.2.1;omega) (by have:=hb.2.1;omega)
  simp only [if_pos,Int.reduceEq,if_neg,if_false,if_true];omega
 ·simp only [showS,h]
  have hl:=(plain3 v h).1
  have hn:=replace_len (plainV v).s [39] [39,39]
  simp only [Int.reduceEq,if_false,if_true,List.length_append,List.length_cons,List.length_nil] at hn ⊢
  omega
 ·have hb:=plain_moment h
  have hl:=dtext_len hb.1 hb.2
  simp only [showS,h,Int.reduceEq,if_false,if_true,List.length_append,List.length_cons,List.length_nil]
  omega
theorem small_room (k:Nat) (h:k≤1000):(k≤roomMax)=True:=by unfold roomMax;simp;omega
theorem p_Atoi_ok (s:List UInt8) (v:Int) (hl:s.length≤281474976710656) (h:atoiN s=some v):R K (.call 423 [.str s] [])=some (.tup [I v,.nili],[]) :=
 R_prim (by
  show pAtoi [.str s]=_
  simp only [pAtoi]
  rw [if_pos (by simpa using hl)]
  unfold atoiN at h
  cases ha:Lib.atoiAll s with
  | ok u=>rw [ha] at h;simp only [Option.some.injEq] at h;rw [h]
  | _=>rw [ha] at h;simp at h)
theorem p_Atoi_no (s:List UInt8) (hl:s.length≤281474976710656) (h:atoiN s=none):∃ z:Int,R K (.call 423 [.str s] [])=some (.tup [I z,.iface 468 .any],[]):=by
 unfold atoiN at h
 cases ha:Lib.atoiAll s with
 | ok u=>rw [ha] at h;simp at h
 | range =>
  refine ⟨Lib.atoiSat s,R_prim ?_⟩
  show pAtoi [.str s]=_
  simp only [pAtoi,ha]
  rw [if_pos (by simpa using hl)]
 | _ =>
  refine ⟨0,R_prim ?_⟩
  show pAtoi [.str s]=_
  simp only [pAtoi,ha]
  rw [if_pos (by simpa using hl)]
theorem six_no {s:List UInt8} (h:atoiN (List.take 4 s)=none∨atoiN (List.take 2 (List.drop 5 s))=none∨atoiN (List.take 2 (List.drop 8 s))=none∨atoiN (List.take 2 (List.drop 11 s))=none∨atoiN (List.take 2 (List.drop 14 s))=none∨atoiN (List.take 2 (List.drop 17 s))=none):dreadS s=null:=by
 have e:sixS s=none:=by
  unfold sixS
  simp only [cut,List.drop_zero,Nat.reduceSub,Nat.sub_zero]
  rcases h with h | h | h | h | h | h<;>rw [h]<;>simp
 unfold dreadS
 split
 ·rw [e]
 ·rfl
theorem six_yes {s:List UInt8} {a b c d e f:Int} (h1:atoiN (List.take 4 s)=some a) (h2:atoiN (List.take 2 (List.drop 5 s))=some b) (h3:atoiN (List.take 2 (List.drop 8 s))=some c) (h4:atoiN (List.take 2 (List.drop 11 s))=some d) (h5:atoiN (List.take 2 (List.drop 14 s))=some e) (h6:atoiN (List.take 2 (List.drop 17 s))=some f):sixS s=some (a,b,c,d,e,f):=by
 unfold sixS
 simp only [cut,List.drop_zero,Nat.reduceSub,Nat.sub_zero,h1,h2,h3,h4,h5,h6]
theorem right_moment {v:Val} (hk:v.k=4) (hr:rightS v=true):0≤v.n∧v.n≤253402300799:=by
 have:=plain_moment (v:=v) (by rw [plain_of_right hr];exact hk)
 rwa [plain_of_right hr] at this
set_option maxHeartbeats 4000000 in
theorem c_dateRead (s:List UInt8):R K (.call 422 [.str s] [])=some (enc (dreadS s),[]):=by
 by_cases hs:s.length=19
 rotate_left
 ·have e:dreadS s=null:=if_neg hs
  have hb:(((s.length:Nat):Int) != 19)=true:=by simpa using (fun h=>hs (by omega):¬((s.length:Nat):Int)=19)
  rw [e]
  rw [call_422]
  simp -implicitDefEqProofs only [go_sem,simprocAttr,Tryz.f422,hb]
  rfl
 have hsI:((s.length:Nat):Int)=19:=by omega
 have lt:∀ (k:Nat) (l:List UInt8),(List.take k l).length≤281474976710656∨281474976710656 < k:=fun k l=>by
  rcases Nat.lt_or_ge 281474976710656 k with h | h
  ·exact .inr h
  ·exact .inl (Nat.le_trans (List.length_take_le _ _) h)
 cases h0:atoiN (List.take 4 s) with
 | none =>
  have e:=six_no (s:=s) (.inl h0)
  obtain ⟨z,a0⟩:=p_Atoi_no (List.take 4 s) ((lt _ _).resolve_right (by omega)) h0
  rw [e]
  rw [call_422]
  simp -implicitDefEqProofs only [go_sem,simprocAttr,Tryz.f422,hs,hsI]
  rw [RL_eq]
  simp -implicitDefEqProofs only [go_sem,simprocAttr,hs,hsI,at?,small_room,a0]
  rfl
 | some n0 =>
  have a0:=p_Atoi_ok (List.take 4 s) n0 ((lt _ _).resolve_right (by omega)) h0
  cases h1:atoiN (List.take 2 (List.drop 5 s)) with
  | none =>
   have e:=six_no (s:=s) (.inr (.inl h1))
   obtain ⟨z,a1⟩:=p_Atoi_no (List.take 2 (List.drop 5 s)) ((lt _ _).resolve_right (by omega)) h1
   rw [e]
   rw [call_422]
   simp -implicitDefEqProofs only [go_sem,simprocAttr,Tryz.f422,hs,hsI]
   rw [RL_eq]
   simp -implicitDefEqProofs only [go_sem,simprocAttr,hs,hsI,at?,small_room,a0,a1]
   rw [RL_eq]
   simp -implicitDefEqProofs only [go_sem,simprocAttr,hs,hsI,at?,small_room,a0,a1]
   rfl
  | some n1 =>
   have a1:=p_Atoi_ok (List.take 2 (List.drop 5 s)) n1 ((lt _ _).resolve_right (by omega)) h1
   cases h2:atoiN (List.take 2 (List.drop 8 s)) with
   | none =>
    have e:=six_no (s:=s) (.inr (.inr (.inl h2)))
    obtain ⟨z,a2⟩:=p_Atoi_no (List.take 2 (List.drop 8 s)) ((lt _ _).resolve_right (by omega)) h2
    rw [e]
    rw [call_422]
    simp -implicitDefEqProofs only [go_sem,simprocAttr,Tryz.f422,hs,hsI]
    rw [RL_eq]
    simp -implicitDefEqProofs only [go_sem,simprocAttr,hs,hsI,at?,small_room,a0,a1,a2]
    rw [RL_eq]
    simp -implicitDefEqProofs only [go_sem,simprocAttr,hs,hsI,at?,small_room,a0,a1,a2]
    rw [RL_eq]
    simp -implicitDefEqProofs only [go_sem,simprocAttr,hs,hsI,at?,small_room,a0,a1,a2]
    rfl
   | some n2 =>
    have a2:=p_Atoi_ok (List.take 2 (List.drop 8 s)) n2 ((lt _ _).resolve_right (by omega)) h2
    cases h3:atoiN (List.take 2 (List.drop 11 s)) with
    | none =>
     have e:=six_no (s:=s) (.inr (.inr (.inr (.inl h3))))
     obtain ⟨z,a3⟩:=p_Atoi_no (List.take 2 (List.drop 11 s)) ((lt _ _).resolve_right (by omega)) h3
     rw [e]
     rw [call_422]
     simp -implicitDefEqProofs only [go_sem,simprocAttr,Tryz.f422,hs,hsI]
     rw [RL_eq]
     simp -implicitDefEqProofs only [go_sem,simprocAttr,hs,hsI,at?,small_room,a0,a1,a2,a3]
     rw [RL_eq]
     simp -implicitDefEqProofs only [go_sem,simprocAttr,hs,hsI,at?,small_room,a0,a1,a2,a3]
     rw [RL_eq]
     simp -implicitDefEqProofs only [go_sem,simprocAttr,hs,hsI,at?,small_room,a0,a1,a2,a3]
     rw [RL_eq]
     simp -implicitDefEqProofs only [go_sem,simprocAttr,hs,hsI,at?,small_room,a0,a1,a2,a3]
     rfl
    | some n3 =>
     have a3:=p_Atoi_ok (List.take 2 (List.drop 11 s)) n3 ((lt _ _).resolve_right (by omega)) h3
     cases h4:atoiN (List.take 2 (List.drop 14 s)) with
     | none =>
      have e:=six_no (s:=s) (.inr (.inr (.inr (.inr (.inl h4)))))
      obtain ⟨z,a4⟩:=p_Atoi_no (List.take 2 (List.drop 14 s)) ((lt _ _).resolve_right (by omega)) h4
      rw [e]
      rw [call_422]
      simp -implicitDefEqProofs only [go_sem,simprocAttr,Tryz.f422,hs,hsI]
      rw [RL_eq]
      simp -implicitDefEqProofs only [go_sem,simprocAttr,hs,hsI,at?,small_room,a0,a1,a2,a3,a4]
      rw [RL_eq]
      simp -implicitDefEqProofs only [go_sem,simprocAttr,hs,hsI,at?,small_room,a0,a1,a2,a3,a4]
      rw [RL_eq]
      simp -implicitDefEqProofs only [go_sem,simprocAttr,hs,hsI,at?,small_room,a0,a1,a2,a3,a4]
      rw [RL_eq]
      simp -implicitDefEqProofs only [go_sem,simprocAttr,hs,hsI,at?,small_room,a0,a1,a2,a3,a4]
      rw [RL_eq]
      simp -implicitDefEqProofs only [go_sem,simprocAttr,hs,hsI,at?,small_room,a0,a1,a2,a3,a4]
      rfl
     | some n4 =>
      have a4:=p_Atoi_ok (List.take 2 (List.drop 14 s)) n4 ((lt _ _).resolve_right (by omega)) h4
      cases h5:atoiN (List.take 2 (List.drop 17 s)) with
      | none =>
       have e:=six_no (s:=s) (.inr (.inr (.inr (.inr (.inr h5)))))
       obtain ⟨z,a5⟩:=p_Atoi_no (List.take 2 (List.drop 17 s)) ((lt _ _).resolve_right (by omega)) h5
       rw [e]
       rw [call_422]
       simp -implicitDefEqProofs only [go_sem,simprocAttr,Tryz.f422,hs,hsI]
       rw [RL_eq]
       simp -implicitDefEqProofs only [go_sem,simprocAttr,hs,hsI,at?,small_room,a0,a1,a2,a3,a4,a5]
       rw [RL_eq]
       simp -implicitDefEqProofs only [go_sem,simprocAttr,hs,hsI,at?,small_room,a0,a1,a2,a3,a4,a5]
       rw [RL_eq]
       simp -implicitDefEqProofs only [go_sem,simprocAttr,hs,hsI,at?,small_room,a0,a1,a2,a3,a4,a5]
       rw [RL_eq]
       simp -implicitDefEqProofs only [go_sem,simprocAttr,hs,hsI,at?,small_room,a0,a1,a2,a3,a4,a5]
       rw [RL_eq]
       simp -implicitDefEqProofs only [go_sem,simprocAttr,hs,hsI,at?,small_room,a0,a1,a2,a3,a4,a5]
       rw [RL_eq]
       simp -implicitDefEqProofs only [go_sem,simprocAttr,hs,hsI,at?,small_room,a0,a1,a2,a3,a4,a5]
       rfl
      | some n5 =>
       have a5:=p_Atoi_ok (List.take 2 (List.drop 17 s)) n5 ((lt _ _).resolve_right (by omega)) h5
       have hsix:=six_yes h0 h1 h2 h3 h4 h5
       have hv:dreadS s=if (dateV n0 n1 n2 n3 n4 n5).k=0∨dtextS (dateV n0 n1 n2 n3 n4 n5).n≠s then null else dateV n0 n1 n2 n3 n4 n5:=by unfold dreadS;rw [if_pos hs,hsix]
       have hd:=c_Date n0 n1 n2 n3 n4 n5
       rcases date_cases n0 n1 n2 n3 n4 n5 with hc | ⟨hk,hss,hr⟩
       ·rw [hc] at hv hd
        have hv:dreadS s=null:=by rw [hv];rfl
        rw [hv]
        have kn:null.k=0:=rfl
        rw [call_422]
        simp -implicitDefEqProofs only [go_sem,simprocAttr,Tryz.f422,hs,hsI]
        rw [RL_eq]
        simp -implicitDefEqProofs only [go_sem,simprocAttr,hs,hsI,at?,small_room,a0,a1,a2,a3,a4,a5]
        rw [RL_eq]
        simp -implicitDefEqProofs only [go_sem,simprocAttr,hs,hsI,at?,small_room,a0,a1,a2,a3,a4,a5]
        rw [RL_eq]
        simp -implicitDefEqProofs only [go_sem,simprocAttr,hs,hsI,at?,small_room,a0,a1,a2,a3,a4,a5]
        rw [RL_eq]
        simp -implicitDefEqProofs only [go_sem,simprocAttr,hs,hsI,at?,small_room,a0,a1,a2,a3,a4,a5]
        rw [RL_eq]
        simp -implicitDefEqProofs only [go_sem,simprocAttr,hs,hsI,at?,small_room,a0,a1,a2,a3,a4,a5]
        rw [RL_eq]
        simp -implicitDefEqProofs only [go_sem,simprocAttr,hs,hsI,at?,small_room,a0,a1,a2,a3,a4,a5]
        rw [RL_eq]
        simp -implicitDefEqProofs only [go_sem,simprocAttr,hs,hsI,at?,small_room,a0,a1,a2,a3,a4,a5,hd,kn]
        all_goals rfl
       ·have hb:=right_moment hk hr
        have ht:=c_dateText (dateV n0 n1 n2 n3 n4 n5).n hb.1 hb.2
        by_cases hq:dtextS (dateV n0 n1 n2 n3 n4 n5).n=s
        ·have hv:dreadS s=dateV n0 n1 n2 n3 n4 n5:=by rw [hv,if_neg (fun h=>h.elim (fun h=>by rw [hk] at h;simp at h) (fun h=>h hq))]
         have hq2:(dtextS (dateV n0 n1 n2 n3 n4 n5).n==s)=true:=by simp [hq]
         rw [hv]
         rw [call_422]
         simp -implicitDefEqProofs only [go_sem,simprocAttr,Tryz.f422,hs,hsI]
         rw [RL_eq]
         simp -implicitDefEqProofs only [go_sem,simprocAttr,hs,hsI,at?,small_room,a0,a1,a2,a3,a4,a5]
         rw [RL_eq]
         simp -implicitDefEqProofs only [go_sem,simprocAttr,hs,hsI,at?,small_room,a0,a1,a2,a3,a4,a5]
         rw [RL_eq]
         simp -implicitDefEqProofs only [go_sem,simprocAttr,hs,hsI,at?,small_room,a0,a1,a2,a3,a4,a5]
         rw [RL_eq]
         simp -implicitDefEqProofs only [go_sem,simprocAttr,hs,hsI,at?,small_room,a0,a1,a2,a3,a4,a5]
         rw [RL_eq]
         simp -implicitDefEqProofs only [go_sem,simprocAttr,hs,hsI,at?,small_room,a0,a1,a2,a3,a4,a5]
         rw [RL_eq]
         simp -implicitDefEqProofs only [go_sem,simprocAttr,hs,hsI,at?,small_room,a0,a1,a2,a3,a4,a5]
         rw [RL_eq]
         simp -implicitDefEqProofs only [go_sem,simprocAttr,hs,hsI,at?,small_room,a0,a1,a2,a3,a4,a5,hd,hk,ht,hq2]
        ·have hv:dreadS s=null:=by rw [hv,if_pos (.inr hq)]
         have hq2:(dtextS (dateV n0 n1 n2 n3 n4 n5).n==s)=false:=by simpa using hq
         rw [hv]
         rw [call_422]
         simp -implicitDefEqProofs only [go_sem,simprocAttr,Tryz.f422,hs,hsI]
         rw [RL_eq]
         simp -implicitDefEqProofs only [go_sem,simprocAttr,hs,hsI,at?,small_room,a0,a1,a2,a3,a4,a5]
         rw [RL_eq]
         simp -implicitDefEqProofs only [go_sem,simprocAttr,hs,hsI,at?,small_room,a0,a1,a2,a3,a4,a5]
         rw [RL_eq]
         simp -implicitDefEqProofs only [go_sem,simprocAttr,hs,hsI,at?,small_room,a0,a1,a2,a3,a4,a5]
         rw [RL_eq]
         simp -implicitDefEqProofs only [go_sem,simprocAttr,hs,hsI,at?,small_room,a0,a1,a2,a3,a4,a5]
         rw [RL_eq]
         simp -implicitDefEqProofs only [go_sem,simprocAttr,hs,hsI,at?,small_room,a0,a1,a2,a3,a4,a5]
         rw [RL_eq]
         simp -implicitDefEqProofs only [go_sem,simprocAttr,hs,hsI,at?,small_room,a0,a1,a2,a3,a4,a5]
         rw [RL_eq]
         simp -implicitDefEqProofs only [go_sem,simprocAttr,hs,hsI,at?,small_room,a0,a1,a2,a3,a4,a5,hd,hk,ht,hq2]
         rfl
set_option maxHeartbeats 4000000 in
theorem r_momentFrom (s:List UInt8):∃ w b,R K (.call 428 [.str s] [])=some (.tup [enc w,.bool b],[])∧b=decide ((dreadS s).k=4)∧(b=true→w=dreadS s):=by
 by_cases hs:s.length=19
 rotate_left
 ·have e:dreadS s=null:=if_neg hs
  have hb:(((s.length:Nat):Int) != 19)=true:=by simpa using (fun h=>hs (by omega):¬((s.length:Nat):Int)=19)
  refine ⟨null,false,?_,by rw [e];rfl,fun h=>by simp at h⟩
  rw [call_428]
  simp -implicitDefEqProofs only [go_sem,simprocAttr,Tryz.f428,hb]
  rfl
 have hsI:((s.length:Nat):Int)=19:=by omega
 have lt:∀ (k:Nat) (l:List UInt8),(List.take k l).length≤281474976710656∨281474976710656 < k:=fun k l=>by
  rcases Nat.lt_or_ge 281474976710656 k with h | h
  ·exact .inr h
  ·exact .inl (Nat.le_trans (List.length_take_le _ _) h)
 cases h0:atoiN (List.take 4 s) with
 | none =>
  have e:=six_no (s:=s) (.inl h0)
  obtain ⟨z,a0⟩:=p_Atoi_no (List.take 4 s) ((lt _ _).resolve_right (by omega)) h0
  refine ⟨null,false,?_,by rw [e];rfl,fun h=>by simp at h⟩
  rw [call_428]
  simp -implicitDefEqProofs only [go_sem,simprocAttr,Tryz.f428,hs,hsI]
  rw [RL_eq]
  simp -implicitDefEqProofs only [go_sem,simprocAttr,hs,hsI,at?,small_room,a0]
  rfl
 | some n0 =>
  have a0:=p_Atoi_ok (List.take 4 s) n0 ((lt _ _).resolve_right (by omega)) h0
  cases h1:atoiN (List.take 2 (List.drop 5 s)) with
  | none =>
   have e:=six_no (s:=s) (.inr (.inl h1))
   obtain ⟨z,a1⟩:=p_Atoi_no (List.take 2 (List.drop 5 s)) ((lt _ _).resolve_right (by omega)) h1
   refine ⟨null,false,?_,by rw [e];rfl,fun h=>by simp at h⟩
   rw [call_428]
   simp -implicitDefEqProofs only [go_sem,simprocAttr,Tryz.f428,hs,hsI]
   rw [RL_eq]
   simp -implicitDefEqProofs only [go_sem,simprocAttr,hs,hsI,at?,small_room,a0,a1]
   rw [RL_eq]
   simp -implicitDefEqProofs only [go_sem,simprocAttr,hs,hsI,at?,small_room,a0,a1]
   rfl
  | some n1 =>
   have a1:=p_Atoi_ok (List.take 2 (List.drop 5 s)) n1 ((lt _ _).resolve_right (by omega)) h1
   cases h2:atoiN (List.take 2 (List.drop 8 s)) with
   | none =>
    have e:=six_no (s:=s) (.inr (.inr (.inl h2)))
    obtain ⟨z,a2⟩:=p_Atoi_no (List.take 2 (List.drop 8 s)) ((lt _ _).resolve_right (by omega)) h2
    refine ⟨null,false,?_,by rw [e];rfl,fun h=>by simp at h⟩
    rw [call_428]
    simp -implicitDefEqProofs only [go_sem,simprocAttr,Tryz.f428,hs,hsI]
    rw [RL_eq]
    simp -implicitDefEqProofs only [go_sem,simprocAttr,hs,hsI,at?,small_room,a0,a1,a2]
    rw [RL_eq]
    simp -implicitDefEqProofs only [go_sem,simprocAttr,hs,hsI,at?,small_room,a0,a1,a2]
    rw [RL_eq]
    simp -implicitDefEqProofs only [go_sem,simprocAttr,hs,hsI,at?,small_room,a0,a1,a2]
    rfl
   | some n2 =>
    have a2:=p_Atoi_ok (List.take 2 (List.drop 8 s)) n2 ((lt _ _).resolve_right (by omega)) h2
    cases h3:atoiN (List.take 2 (List.drop 11 s)) with
    | none =>
     have e:=six_no (s:=s) (.inr (.inr (.inr (.inl h3))))
     obtain ⟨z,a3⟩:=p_Atoi_no (List.take 2 (List.drop 11 s)) ((lt _ _).resolve_right (by omega)) h3
     refine ⟨null,false,?_,by rw [e];rfl,fun h=>by simp at h⟩
     rw [call_428]
     simp -implicitDefEqProofs only [go_sem,simprocAttr,Tryz.f428,hs,hsI]
     rw [RL_eq]
     simp -implicitDefEqProofs only [go_sem,simprocAttr,hs,hsI,at?,small_room,a0,a1,a2,a3]
     rw [RL_eq]
     simp -implicitDefEqProofs only [go_sem,simprocAttr,hs,hsI,at?,small_room,a0,a1,a2,a3]
     rw [RL_eq]
     simp -implicitDefEqProofs only [go_sem,simprocAttr,hs,hsI,at?,small_room,a0,a1,a2,a3]
     rw [RL_eq]
     simp -implicitDefEqProofs only [go_sem,simprocAttr,hs,hsI,at?,small_room,a0,a1,a2,a3]
     rfl
    | some n3 =>
     have a3:=p_Atoi_ok (List.take 2 (List.drop 11 s)) n3 ((lt _ _).resolve_right (by omega)) h3
     cases h4:atoiN (List.take 2 (List.drop 14 s)) with
     | none =>
      have e:=six_no (s:=s) (.inr (.inr (.inr (.inr (.inl h4)))))
      obtain ⟨z,a4⟩:=p_Atoi_no (List.take 2 (List.drop 14 s)) ((lt _ _).resolve_right (by omega)) h4
      refine ⟨null,false,?_,by rw [e];rfl,fun h=>by simp at h⟩
      rw [call_428]
      simp -implicitDefEqProofs only [go_sem,simprocAttr,Tryz.f428,hs,hsI]
      rw [RL_eq]
      simp -implicitDefEqProofs only [go_sem,simprocAttr,hs,hsI,at?,small_room,a0,a1,a2,a3,a4]
      rw [RL_eq]
      simp -implicitDefEqProofs only [go_sem,simprocAttr,hs,hsI,at?,small_room,a0,a1,a2,a3,a4]
      rw [RL_eq]
      simp -implicitDefEqProofs only [go_sem,simprocAttr,hs,hsI,at?,small_room,a0,a1,a2,a3,a4]
      rw [RL_eq]
      simp -implicitDefEqProofs only [go_sem,simprocAttr,hs,hsI,at?,small_room,a0,a1,a2,a3,a4]
      rw [RL_eq]
      simp -implicitDefEqProofs only [go_sem,simprocAttr,hs,hsI,at?,small_room,a0,a1,a2,a3,a4]
      rfl
     | some n4 =>
      have a4:=p_Atoi_ok (List.take 2 (List.drop 14 s)) n4 ((lt _ _).resolve_right (by omega)) h4
      cases h5:atoiN (List.take 2 (List.drop 17 s)) with
      | none =>
       have e:=six_no (s:=s) (.inr (.inr (.inr (.inr (.inr h5)))))
       obtain ⟨z,a5⟩:=p_Atoi_no (List.take 2 (List.drop 17 s)) ((lt _ _).resolve_right (by omega)) h5
       refine ⟨null,false,?_,by rw [e];rfl,fun h=>by simp at h⟩
       rw [call_428]
       simp -implicitDefEqProofs only [go_sem,simprocAttr,Tryz.f428,hs,hsI]
       rw [RL_eq]
       simp -implicitDefEqProofs only [go_sem,simprocAttr,hs,hsI,at?,small_room,a0,a1,a2,a3,a4,a5]
       rw [RL_eq]
       simp -implicitDefEqProofs only [go_sem,simprocAttr,hs,hsI,at?,small_room,a0,a1,a2,a3,a4,a5]
       rw [RL_eq]
       simp -implicitDefEqProofs only [go_sem,simprocAttr,hs,hsI,at?,small_room,a0,a1,a2,a3,a4,a5]
       rw [RL_eq]
       simp -implicitDefEqProofs only [go_sem,simprocAttr,hs,hsI,at?,small_room,a0,a1,a2,a3,a4,a5]
       rw [RL_eq]
       simp -implicitDefEqProofs only [go_sem,simprocAttr,hs,hsI,at?,small_room,a0,a1,a2,a3,a4,a5]
       rw [RL_eq]
       simp -implicitDefEqProofs only [go_sem,simprocAttr,hs,hsI,at?,small_room,a0,a1,a2,a3,a4,a5]
       rfl
      | some n5 =>
       have a5:=p_Atoi_ok (List.take 2 (List.drop 17 s)) n5 ((lt _ _).resolve_right (by omega)) h5
       have hsix:=six_yes h0 h1 h2 h3 h4 h5
       have hv:dreadS s=if (dateV n0 n1 n2 n3 n4 n5).k=0∨dtextS (dateV n0 n1 n2 n3 n4 n5).n≠s then null else dateV n0 n1 n2 n3 n4 n5:=by unfold dreadS;rw [if_pos hs,hsix]
       have hd:=r_Dated n0 n1 n2 n3 n4 n5
       rcases date_cases n0 n1 n2 n3 n4 n5 with hc | ⟨hk,hss,hr⟩
       ·rw [hc] at hv hd
        have hv:dreadS s=null:=by rw [hv];rfl
        refine ⟨null,false,?_,by rw [hv];rfl,fun h=>by simp at h⟩
        have kn:null.k=0:=rfl
        rw [call_428]
        simp -implicitDefEqProofs only [go_sem,simprocAttr,Tryz.f428,hs,hsI]
        rw [RL_eq]
        simp -implicitDefEqProofs only [go_sem,simprocAttr,hs,hsI,at?,small_room,a0,a1,a2,a3,a4,a5]
        rw [RL_eq]
        simp -implicitDefEqProofs only [go_sem,simprocAttr,hs,hsI,at?,small_room,a0,a1,a2,a3,a4,a5]
        rw [RL_eq]
        simp -implicitDefEqProofs only [go_sem,simprocAttr,hs,hsI,at?,small_room,a0,a1,a2,a3,a4,a5]
        rw [RL_eq]
        simp -implicitDefEqProofs only [go_sem,simprocAttr,hs,hsI,at?,small_room,a0,a1,a2,a3,a4,a5]
        rw [RL_eq]
        simp -implicitDefEqProofs only [go_sem,simprocAttr,hs,hsI,at?,small_room,a0,a1,a2,a3,a4,a5]
        rw [RL_eq]
        simp -implicitDefEqProofs only [go_sem,simprocAttr,hs,hsI,at?,small_room,a0,a1,a2,a3,a4,a5]
        rw [RL_eq]
        simp -implicitDefEqProofs only [go_sem,simprocAttr,hs,hsI,at?,small_room,a0,a1,a2,a3,a4,a5,hd,kn]
        all_goals rfl
       ·have hb:=right_moment hk hr
        have ht:=r_MomentText (dateV n0 n1 n2 n3 n4 n5).n hb.1 hb.2
        by_cases hq:dtextS (dateV n0 n1 n2 n3 n4 n5).n=s
        ·have hv:dreadS s=dateV n0 n1 n2 n3 n4 n5:=by rw [hv,if_neg (fun h=>h.elim (fun h=>by rw [hk] at h;simp at h) (fun h=>h hq))]
         have hq2:(dtextS (dateV n0 n1 n2 n3 n4 n5).n==s)=true:=by simp [hq]
         refine ⟨dateV n0 n1 n2 n3 n4 n5,true,?_,by rw [hv,hk];rfl,fun _=>hv.symm⟩
         rw [call_428]
         simp -implicitDefEqProofs only [go_sem,simprocAttr,Tryz.f428,hs,hsI]
         rw [RL_eq]
         simp -implicitDefEqProofs only [go_sem,simprocAttr,hs,hsI,at?,small_room,a0,a1,a2,a3,a4,a5]
         rw [RL_eq]
         simp -implicitDefEqProofs only [go_sem,simprocAttr,hs,hsI,at?,small_room,a0,a1,a2,a3,a4,a5]
         rw [RL_eq]
         simp -implicitDefEqProofs only [go_sem,simprocAttr,hs,hsI,at?,small_room,a0,a1,a2,a3,a4,a5]
         rw [RL_eq]
         simp -implicitDefEqProofs only [go_sem,simprocAttr,hs,hsI,at?,small_room,a0,a1,a2,a3,a4,a5]
         rw [RL_eq]
         simp -implicitDefEqProofs only [go_sem,simprocAttr,hs,hsI,at?,small_room,a0,a1,a2,a3,a4,a5]
         rw [RL_eq]
         simp -implicitDefEqProofs only [go_sem,simprocAttr,hs,hsI,at?,small_room,a0,a1,a2,a3,a4,a5]
         rw [RL_eq]
         simp -implicitDefEqProofs only [go_sem,simprocAttr,hs,hsI,at?,small_room,a0,a1,a2,a3,a4,a5,hd,hk,ht,hq2]
        ·have hv:dreadS s=null:=by rw [hv,if_pos (.inr hq)]
         have hq2:(dtextS (dateV n0 n1 n2 n3 n4 n5).n==s)=false:=by simpa using hq
         refine ⟨dateV n0 n1 n2 n3 n4 n5,false,?_,by rw [hv];rfl,fun h=>by simp at h⟩
         rw [call_428]
         simp -implicitDefEqProofs only [go_sem,simprocAttr,Tryz.f428,hs,hsI]
         rw [RL_eq]
         simp -implicitDefEqProofs only [go_sem,simprocAttr,hs,hsI,at?,small_room,a0,a1,a2,a3,a4,a5]
         rw [RL_eq]
         simp -implicitDefEqProofs only [go_sem,simprocAttr,hs,hsI,at?,small_room,a0,a1,a2,a3,a4,a5]
         rw [RL_eq]
         simp -implicitDefEqProofs only [go_sem,simprocAttr,hs,hsI,at?,small_room,a0,a1,a2,a3,a4,a5]
         rw [RL_eq]
         simp -implicitDefEqProofs only [go_sem,simprocAttr,hs,hsI,at?,small_room,a0,a1,a2,a3,a4,a5]
         rw [RL_eq]
         simp -implicitDefEqProofs only [go_sem,simprocAttr,hs,hsI,at?,small_room,a0,a1,a2,a3,a4,a5]
         rw [RL_eq]
         simp -implicitDefEqProofs only [go_sem,simprocAttr,hs,hsI,at?,small_room,a0,a1,a2,a3,a4,a5]
         rw [RL_eq]
         simp -implicitDefEqProofs only [go_sem,simprocAttr,hs,hsI,at?,small_room,a0,a1,a2,a3,a4,a5,hd,hk,ht,hq2]
theorem c_boolean (b:Bool):R K (.call 421 [.bool b] [])=some (enc (boolV b),[]):=by
 rw [call_421]
 simp -implicitDefEqProofs only [go_sem,simprocAttr,Tryz.f421]
 repeat' ((first | apply split_cond | apply split_yes | apply split_no)<;>intro hc<;>simp -implicitDefEqProofs only [hc,go_sem,simprocAttr])
 all_goals simp_all [boolV]
theorem at_zero {α:Type} (x:α) (l:List α):at? (x::l) (0:Int)=some x:=rfl
theorem u8_lit (c:UInt8) (k:Nat) (hk:k < 256):(((c.toNat:Nat):Int)==(k:Int))=(c==UInt8.ofNat k):=by
 rw [Bool.eq_iff_iff]
 simp only [beq_iff_eq]
 constructor
 ·intro h
  refine UInt8.toNat.inj ?_
  rw [UInt8.toNat_ofNat']
  omega
 ·rintro rfl
  rw [UInt8.toNat_ofNat']
  omega
theorem cand_true:candS bTrue=boolV true:=by unfold candS;rw [if_pos (by decide)];rfl
theorem cand_false:candS bFalse=boolV false:=by unfold candS;rw [if_pos (by decide)];rfl
theorem p_HasPrefix (s p:List UInt8):R K (.call 193 [.str s,.str p] [])=some (.bool (Lib.hasPrefix s p),[]):=R_prim rfl
theorem u8_39 (c:UInt8):(((c.toNat:Nat):Int)==39)=(c==39):=u8_lit c 39 (by omega)
theorem c_candidate (s:List UInt8) (hs:s.length≤10000000):R K (.call 377 [.str s] [])=some (enc (candS s),[]):=by
 by_cases h1:s=bTrue
 ·have e:candS s=boolV true:=by rw [h1];exact cand_true
  have hb:(s==bTrue)=true:=by simp [h1]
  rw [e]
  rw [call_377]
  simp -implicitDefEqProofs only [go_sem,simprocAttr,Tryz.f377,hb,c_boolean]
 by_cases h2:s=bFalse
 ·have e:candS s=boolV false:=by rw [h2];exact cand_false
  have hb:(s==bTrue)=false:=by simpa using h1
  have hb2:(s==bFalse)=true:=by simp [h2]
  rw [e]
  rw [call_377]
  simp -implicitDefEqProofs only [go_sem,simprocAttr,Tryz.f377,hb,hb2,c_boolean]
 have hb:(s==bTrue)=false:=by simpa using h1
 have hb2:(s==bFalse)=false:=by simpa using h2
 have hn:¬(s=bTrue∨s=bFalse):=fun h=>h.elim h1 h2
 have tailEq:¬(2≤s.length∧s[0]? = some 39∧s[s.length - 1]? = some 39)→candS s=(if Lib.hasPrefix s [64]=true then dreadS (s.drop 1) else match atoiN s with
  | some n=>⟨2,n,[]⟩
  | none=>null):=fun hq=>by unfold candS;rw [if_neg hn,if_neg hq]<;>cases atoiN s<;>rfl
 have hw:1≤s.length→wrapI .i64 ((s.length:Int) - 1)=((s.length - 1:Nat):Int):=fun h=>by rw [wrap_id (by omega) (by omega)];omega
 have q4:(s.drop 1).length≤s.length:=by simp
 by_cases hq:(2≤s.length∧s[0]? = some 39∧s[s.length - 1]? = some 39)
 ·have e:candS s=⟨3,0,Lib.replaceAll (cut s 1 (s.length - 1)) [39,39] [39]⟩:=by unfold candS;rw [if_neg hn,if_pos hq]
  obtain ⟨l2,c0,cl⟩:=hq
  have hw:=hw (by omega)
  have g1:decide ((2:Int)≤(s.length:Int))=true:=by rw [decide_eq_true_eq];omega
  have g2:at? s 0=some 39:=byte_get c0
  have g3:=byte_get cl
  have g4:((0:Int)≤((s.length - 1:Nat):Int))=True:=eq_true (by omega)
  have g5:(((s.length - 1:Nat):Int)≤(s.length:Int))=True:=eq_true (by omega)
  have g6:((1:Int)≤((s.length - 1:Nat):Int))=True:=eq_true (by omega)
  have g9:((1:Int)≤(s.length:Int))=True:=eq_true (by omega)
  have g7:(1:Int).toNat=1:=rfl
  have g8:((39:UInt8).toNat:Int)=39:=rfl
  have hr:=p_Replace (List.take (s.length - 1 - 1) (List.drop 1 s)) [39,39] [39] (by simp;omega) (by simp) (by simp;omega)
  rw [e]
  rw [call_377]
  simp -implicitDefEqProofs only [go_sem,simprocAttr,Tryz.f377,hb,hb2,g1,g2,g3,g4,g5,g6,g7,g8,g9,hw,Int.toNat_natCast,hr]
  all_goals rfl
 ·rw [tailEq hq]
  by_cases h3:Lib.hasPrefix s [64]=true
  ·have hs0:∃ r,s=64::r:=by
    match s,h3 with
    | [],h3=>simp [Lib.hasPrefix] at h3
    | c::r,h3 =>
     by_cases hc:c=64
     ·exact ⟨r,by rw [hc]⟩
     ·rw [pre_no c r hc] at h3;simp at h3
   obtain ⟨r,rfl⟩:=hs0
   rw [if_pos h3]
   have d:=c_dateRead r
   have hp:=p_HasPrefix (64::r) [64]
   rw [h3] at hp
   have g8:((64:UInt8).toNat:Int)=64:=rfl
   have g9:((1:Int)≤((r.length+1:Nat):Int))=True:=eq_true (by omega)
   have g7:(1:Int).toNat=1:=rfl
   have g10:((r.length+1:Nat):Int).toNat=r.length+1:=rfl
   by_cases h4:2≤r.length+1
   ·have g1:decide ((2:Int)≤((r.length+1:Nat):Int))=true:=by rw [decide_eq_true_eq];omega
    rw [call_377]
    simp -implicitDefEqProofs only [go_sem,simprocAttr,Tryz.f377,hb,hb2,g1,at_zero,g8,hp,g9,g7,Nat.add_sub_cancel,List.take_length,d]
    all_goals rfl
   ·have g1:decide ((2:Int)≤((r.length+1:Nat):Int))=false:=by simp;omega
    rw [call_377]
    simp -implicitDefEqProofs only [go_sem,simprocAttr,Tryz.f377,hb,hb2,g1,at_zero,g8,hp,g9,g7,Nat.add_sub_cancel,List.take_length,d]
    all_goals rfl
  ·have h3':Lib.hasPrefix s [64]=false:=by simpa using h3
   rw [if_neg h3]
   have hp:=p_HasPrefix s [64]
   rw [h3'] at hp
   have fin:∀ {X:AV},True:=fun {X}=>trivial
   cases ha:atoiN s with
   | none =>
    obtain ⟨z,a⟩:=p_Atoi_no s (by omega) ha
    by_cases l2:2≤s.length
    ·have g1:decide ((2:Int)≤(s.length:Int))=true:=by rw [decide_eq_true_eq];omega
     obtain ⟨c,hc⟩:=some_at (l:=s) (i:=0) (by omega)
     have g2:at? s 0=some c:=byte_get hc
     have hw:=hw (by omega)
     obtain ⟨d,hd⟩:=some_at (l:=s) (i:=s.length - 1) (by omega)
     have g3:=byte_get hd
     by_cases hc39:c=39
     ·have g4:(c==39)=true:=by simp [hc39]
      have g5:(d==39)=false:=by
       have:d≠39:=fun e=>hq ⟨l2,by rw [hc,hc39],by rw [hd,e]⟩
       simpa using this
      rw [call_377]
      simp -implicitDefEqProofs only [go_sem,simprocAttr,Tryz.f377,hb,hb2,g1,g2,g3,g4,g5,u8_39,hw,hp,a]
      all_goals rfl
     ·have g4:(c==39)=false:=by simpa using hc39
      rw [call_377]
      simp -implicitDefEqProofs only [go_sem,simprocAttr,Tryz.f377,hb,hb2,g1,g2,g4,u8_39,hp,a]
      all_goals rfl
    ·have g1:decide ((2:Int)≤(s.length:Int))=false:=by simp;omega
     rw [call_377]
     simp -implicitDefEqProofs only [go_sem,simprocAttr,Tryz.f377,hb,hb2,g1,hp,a]
     all_goals rfl
   | some n =>
    have a:=p_Atoi_ok s n (by omega) ha
    by_cases l2:2≤s.length
    ·have g1:decide ((2:Int)≤(s.length:Int))=true:=by rw [decide_eq_true_eq];omega
     obtain ⟨c,hc⟩:=some_at (l:=s) (i:=0) (by omega)
     have g2:at? s 0=some c:=byte_get hc
     have hw:=hw (by omega)
     obtain ⟨d,hd⟩:=some_at (l:=s) (i:=s.length - 1) (by omega)
     have g3:=byte_get hd
     by_cases hc39:c=39
     ·have g4:(c==39)=true:=by simp [hc39]
      have g5:(d==39)=false:=by
       have:d≠39:=fun e=>hq ⟨l2,by rw [hc,hc39],by rw [hd,e]⟩
       simpa using this
      rw [call_377]
      simp -implicitDefEqProofs only [go_sem,simprocAttr,Tryz.f377,hb,hb2,g1,g2,g3,g4,g5,u8_39,hw,hp,a]
     ·have g4:(c==39)=false:=by simpa using hc39
      rw [call_377]
      simp -implicitDefEqProofs only [go_sem,simprocAttr,Tryz.f377,hb,hb2,g1,g2,g4,u8_39,hp,a]
    ·have g1:decide ((2:Int)≤(s.length:Int))=false:=by simp;omega
     rw [call_377]
     simp -implicitDefEqProofs only [go_sem,simprocAttr,Tryz.f377,hb,hb2,g1,hp,a]
theorem c_Read (s:List UInt8) (hs:s.length≤10000000):R K (.call 280 [.str s] [])=some (.tup [enc (readS s).1,I (readS s).2],[]):=by
 have h1:=c_candidate s hs
 have h2:=c_right (candS s).k (candS s).n (candS s).s
 have h3:=c_Show (candS s).k (candS s).n (candS s).s
 rw [Val.eta] at h2 h3
 cases hr:rightS (candS s) with
 | false =>
  rw [hr] at h2
  have e:readS s=(null,14):=by unfold readS;rw [if_neg (by rw [hr];simp)]
  rw [e]
  rw [call_280]
  simp -implicitDefEqProofs only [go_sem,simprocAttr,Tryz.f280,h1,h2]
  all_goals rfl
 | true =>
  rw [hr] at h2
  by_cases hq:showS (candS s)=s
  ·have e:readS s=(candS s,0):=by unfold readS;rw [if_pos ⟨hr,hq⟩]
   have hb:(showS (candS s)==s)=true:=by simp [hq]
   rw [e]
   rw [call_280]
   simp -implicitDefEqProofs only [go_sem,simprocAttr,Tryz.f280,h1,h2,h3,hb]
  ·have e:readS s=(null,14):=by unfold readS;rw [if_neg (fun h=>hq h.2)]
   have hb:(showS (candS s)==s)=false:=by simpa using hq
   rw [e]
   rw [call_280]
   simp -implicitDefEqProofs only [go_sem,simprocAttr,Tryz.f280,h1,h2,h3,hb]
   all_goals rfl
def rowV (v:Val):List AV:=[.int .i64 v.k,.int .i64 v.n,.str v.s]
theorem r_Truth (b:Bool):R K (.call 425 [.bool b] [])=some (enc (boolV b),[]):=by
 rw [call_425]
 simp -implicitDefEqProofs only [go_sem,simprocAttr,Tryz.f425]
 repeat' ((first | apply split_cond | apply split_yes | apply split_no)<;>intro hc<;>simp -implicitDefEqProofs only [hc,go_sem,simprocAttr])
 all_goals simp_all [boolV]
theorem row_get {l:List Val} {i:Nat} {v:Val} (h:l[i]? = some v):at? (l.map rowV) (i:Int)=some (rowV v):=at_get (by simp [h])
theorem r_Number (n:Int):R K (.call 426 [.int .i64 n] [])=some (enc (numberS 2 n),[]):=by
 rw [call_426]
 simp -implicitDefEqProofs only [go_sem,simprocAttr,Tryz.f426,r_right]
 all_goals simp [numberS]
theorem r_word (s:List UInt8):R K (.call 427 [.str s] [])=some (enc (textS s),[]):=by
 rw [call_427]
 simp -implicitDefEqProofs only [go_sem,simprocAttr,Tryz.f427,r_right]
 all_goals simp [textS]
theorem p_TrimPrefix (s p:List UInt8):R K (.call 429 [.str s,.str p] [])=some (.str (Lib.trimPrefix s p),[]):=R_prim rfl
@[go_sem] theorem locsR_rowV:∀ l:List Val,locsR (l.map rowV)=[]
 | []=>rfl
 | v::l=>by simpa [rowV,locsR,locsL,locs] using locsR_rowV l
def Fresh (rows:List (List AV)) (r:AV×Heap):Prop:=r=(.lit rows,[])∨r=(.own 0 rows.length,[.rows 3 rows false])
theorem r_candidates (s:List UInt8) (hs:s.length≤10000000):∃ r,R K (.call 381 [.str s] [])=some r∧Fresh ((candsS s).map rowV) r:=by
 obtain ⟨w,b,hm,hb,hw⟩:=r_momentFrom (Lib.trimPrefix s [64])
 have ht:=p_TrimPrefix s [64]
 have hd:(if (dreadS (Lib.trimPrefix s [64])).k=4 then [dreadS (Lib.trimPrefix s [64])] else [])=if b=true then [w] else []:=by
  cases b with
  | true=>rw [if_pos (by simpa using hb.symm),if_pos rfl,hw rfl]
  | false=>rw [if_neg (by simpa using hb.symm),if_neg (by simp)]
 have key:∀ (q:Bool),(q=true↔(1 < s.length∧s[0]? = some 39))→∀ (X:List Val),(match atoiN s with | some n=>[numberS 2 n] | none=>[])=X →
   ∃ r,R K (.call 381 [.str s] [])=some r∧Fresh (([null,boolV true,boolV false]++X++(if q=true then [textS (Lib.replaceAll (cut s 1 (s.length - 1)) [39,39] [39])] else [])++(if b=true then [w] else [])).map rowV) r:=by
  intro q hq X hX
  have g7:(1:Int).toNat=1:=rfl
  have hr:=p_Replace (List.take (s.length - 1 - 1) (List.drop 1 s)) [39,39] [39] (by simp;omega) (by simp) (by simp;omega)
  have hwr:1 < s.length→wrapI .i64 ((s.length:Int) - 1)=((s.length - 1:Nat):Int):=fun h=>by rw [wrap_id (by omega) (by omega)];omega
  cases ha:atoiN s with
  | none =>
   rw [ha] at hX
   subst hX
   obtain ⟨z,a⟩:=p_Atoi_no s (by omega) ha
   by_cases h1:1 < s.length
   ·have d1:decide ((1:Int) < (s.length:Int))=true:=by rw [decide_eq_true_eq];omega
    obtain ⟨c,hc⟩:=some_at (l:=s) (i:=0) (by omega)
    have c0:at? s 0=some c:=byte_get hc
    by_cases h39:c=39
    ·have c39:(c==39)=true:=by simp [h39]
     have hw1:=hwr h1
     have g9:((1:Int)≤(s.length:Int))=True:=eq_true (by omega)
     have g4:((0:Int)≤((s.length - 1:Nat):Int))=True:=eq_true (by omega)
     have g5:(((s.length - 1:Nat):Int)≤(s.length:Int))=True:=eq_true (by omega)
     have g6:((1:Int)≤((s.length - 1:Nat):Int))=True:=eq_true (by omega)
     have hqt:q=true:=hq.2 ⟨h1,by rw [hc,h39]⟩
     subst hqt
     cases b with
     | true =>
      refine ⟨_,?_,.inr rfl⟩
      rw [call_381]
      simp -implicitDefEqProofs only [go_sem,simprocAttr,Tryz.f381,small_room,a,d1,c0,u8_39,c39,hw1,g9,g4,g5,g6,g7,Int.toNat_natCast,hr,ht,hm,r_Truth,r_word]
      all_goals rfl
     | false =>
      refine ⟨_,?_,.inr rfl⟩
      rw [call_381]
      simp -implicitDefEqProofs only [go_sem,simprocAttr,Tryz.f381,small_room,a,d1,c0,u8_39,c39,hw1,g9,g4,g5,g6,g7,Int.toNat_natCast,hr,ht,hm,r_Truth,r_word]
      all_goals rfl
    ·have c39:(c==39)=false:=by simpa using h39
     have hqf:q=false:=by rw [Bool.eq_false_iff];intro e;have:=(hq.1 e).2;rw [hc] at this;exact h39 (Option.some.inj this)
     subst hqf
     cases b with
     | true =>
      refine ⟨_,?_,.inr rfl⟩
      rw [call_381]
      simp -implicitDefEqProofs only [go_sem,simprocAttr,Tryz.f381,small_room,a,d1,c0,u8_39,c39,ht,hm,r_Truth,r_word]
      all_goals rfl
     | false =>
      refine ⟨_,?_,.inl rfl⟩
      rw [call_381]
      simp -implicitDefEqProofs only [go_sem,simprocAttr,Tryz.f381,small_room,a,d1,c0,u8_39,c39,ht,hm,r_Truth,r_word]
      all_goals rfl
   ·have d1:decide ((1:Int) < (s.length:Int))=false:=by simp;omega
    have hqf:q=false:=by rw [Bool.eq_false_iff];intro e;exact h1 (hq.1 e).1
    subst hqf
    cases b with
    | true =>
     refine ⟨_,?_,.inr rfl⟩
     rw [call_381]
     simp -implicitDefEqProofs only [go_sem,simprocAttr,Tryz.f381,small_room,a,d1,ht,hm,r_Truth,r_word]
     all_goals rfl
    | false =>
     refine ⟨_,?_,.inl rfl⟩
     rw [call_381]
     simp -implicitDefEqProofs only [go_sem,simprocAttr,Tryz.f381,small_room,a,d1,ht,hm,r_Truth,r_word]
     all_goals rfl
  | some n =>
   rw [ha] at hX
   subst hX
   have a:=p_Atoi_ok s n (by omega) ha
   by_cases h1:1 < s.length
   ·have d1:decide ((1:Int) < (s.length:Int))=true:=by rw [decide_eq_true_eq];omega
    obtain ⟨c,hc⟩:=some_at (l:=s) (i:=0) (by omega)
    have c0:at? s 0=some c:=byte_get hc
    by_cases h39:c=39
    ·have c39:(c==39)=true:=by simp [h39]
     have hw1:=hwr h1
     have g9:((1:Int)≤(s.length:Int))=True:=eq_true (by omega)
     have g4:((0:Int)≤((s.length - 1:Nat):Int))=True:=eq_true (by omega)
     have g5:(((s.length - 1:Nat):Int)≤(s.length:Int))=True:=eq_true (by omega)
     have g6:((1:Int)≤((s.length - 1:Nat):Int))=True:=eq_true (by omega)
     have hqt:q=true:=hq.2 ⟨h1,by rw [hc,h39]⟩
     subst hqt
     cases b with
     | true =>
      refine ⟨_,?_,.inr rfl⟩
      rw [call_381]
      simp -implicitDefEqProofs only [go_sem,simprocAttr,Tryz.f381,small_room,a,d1,c0,u8_39,c39,hw1,g9,g4,g5,g6,g7,Int.toNat_natCast,hr,ht,hm,r_Truth,r_word,r_Number]
      all_goals rfl
     | false =>
      refine ⟨_,?_,.inr rfl⟩
      rw [call_381]
      simp -implicitDefEqProofs only [go_sem,simprocAttr,Tryz.f381,small_room,a,d1,c0,u8_39,c39,hw1,g9,g4,g5,g6,g7,Int.toNat_natCast,hr,ht,hm,r_Truth,r_word,r_Number]
      all_goals rfl
    ·have c39:(c==39)=false:=by simpa using h39
     have hqf:q=false:=by rw [Bool.eq_false_iff];intro e;have:=(hq.1 e).2;rw [hc] at this;exact h39 (Option.some.inj this)
     subst hqf
     cases b with
     | true =>
      refine ⟨_,?_,.inr rfl⟩
      rw [call_381]
      simp -implicitDefEqProofs only [go_sem,simprocAttr,Tryz.f381,small_room,a,d1,c0,u8_39,c39,ht,hm,r_Truth,r_word,r_Number]
      all_goals rfl
     | false =>
      refine ⟨_,?_,.inr rfl⟩
      rw [call_381]
      simp -implicitDefEqProofs only [go_sem,simprocAttr,Tryz.f381,small_room,a,d1,c0,u8_39,c39,ht,hm,r_Truth,r_word,r_Number]
      all_goals rfl
   ·have d1:decide ((1:Int) < (s.length:Int))=false:=by simp;omega
    have hqf:q=false:=by rw [Bool.eq_false_iff];intro e;exact h1 (hq.1 e).1
    subst hqf
    cases b with
    | true =>
     refine ⟨_,?_,.inr rfl⟩
     rw [call_381]
     simp -implicitDefEqProofs only [go_sem,simprocAttr,Tryz.f381,small_room,a,d1,ht,hm,r_Truth,r_word,r_Number]
     all_goals rfl
    | false =>
     refine ⟨_,?_,.inr rfl⟩
     rw [call_381]
     simp -implicitDefEqProofs only [go_sem,simprocAttr,Tryz.f381,small_room,a,d1,ht,hm,r_Truth,r_word,r_Number]
     all_goals rfl
 have e:candsS s=[null,boolV true,boolV false]++(match atoiN s with | some n=>[numberS 2 n] | none=>[])++(if decide (1 < s.length∧s[0]? = some 39)=true then [textS (Lib.replaceAll (cut s 1 (s.length - 1)) [39,39] [39])] else [])++(if b=true then [w] else []):=by
  unfold candsS
  rw [hd]
  simp only [decide_eq_true_eq]<;>cases atoiN s<;>rfl
 rw [e]
 exact key _ (by rw [decide_eq_true_eq]) _ rfl
theorem l_Read (s:List UInt8) (rows:List Val) (hl:rows.length≤1000) (X:AV) (H:Heap) (b:Nat)
  (hX:(X=.lit (rows.map rowV)∧H=[.cells [I 0,I 0,.str []]]∧b=1)∨(X=.own 1 rows.length∧H=[.cells [I 0,I 0,.str []],.rows 3 (rows.map rowV) false]∧b=2)) (ks:List It):∀ (m i:Nat) (j:Int) (B:Code),Loop Tryz.f287 0 B→j=(i:Int)→rows.length=i+m →
  RL K (.run 287 0 (.code B::.lp B (some ([0,2,7,8,9],[])) b::.blk 0 b::ks) [(0,.str s),(2,.ptr 0 0),(7,X),(8,I (rows.length:Int)),(9,I j)] H) =
  match (rows.drop i).find? (fun v=>showS v==s) with
  | some v=>some (.tup [enc v,I 0],[])
  | none=>R K (.run 287 0 ks [(2,.ptr 0 0)] (H.take b))
 | 0,i,j,B,hB,hj,hm=>by
  subst hj
  have h1:decide ((i:Int) < (rows.length:Int))=false:=by simp;omega
  rw [List.drop_of_length_le (by omega)]
  rcases hX with ⟨rfl,rfl,rfl⟩ | ⟨rfl,rfl,rfl⟩
  ·unfold Loop at hB
   simp -implicitDefEqProofs only [go_sem,simprocAttr,Tryz.f287,loopOf] at hB
   subst hB
   rw [RL_eq]
   simp -implicitDefEqProofs only [go_sem,simprocAttr,h1]
   all_goals rfl
  ·unfold Loop at hB
   simp -implicitDefEqProofs only [go_sem,simprocAttr,Tryz.f287,loopOf] at hB
   subst hB
   rw [RL_eq]
   simp -implicitDefEqProofs only [go_sem,simprocAttr,h1]
   all_goals rfl
 | m+1,i,j,B,hB,hj,hm=>by
  subst hj
  have hB':=hB
  have h1:decide ((i:Int) < (rows.length:Int))=true:=by rw [decide_eq_true_eq];omega
  obtain ⟨v,hv⟩:=some_at (l:=rows) (i:=i) (by omega)
  have hg:=row_get hv
  have hg2:(rows.map rowV)[i]? = some (rowV v):=by simp [hv]
  have hw:=next_id (i:=i) (n:=rows.length) (by omega) (by omega)
  have hsh:=r_Shown v.k v.n v.s
  rw [Val.eta] at hsh
  rw [drop_get hv]
  have ih:=l_Read s rows hl X H b hX ks m (i+1) _ B hB' rfl (by omega)
  cases hq:showS v==s with
  | true =>
   rcases hX with ⟨rfl,rfl,rfl⟩ | ⟨rfl,rfl,rfl⟩
   ·unfold Loop at hB
    simp -implicitDefEqProofs only [go_sem,simprocAttr,Tryz.f287,loopOf] at hB
    subst hB
    rw [RL_eq]
    simp -implicitDefEqProofs only [go_sem,simprocAttr,h1,hg,hg2,rowV,hsh,hq,Int.toNat_natCast]
    simp only [List.find?_cons,hq]
    all_goals rfl
   ·unfold Loop at hB
    simp -implicitDefEqProofs only [go_sem,simprocAttr,Tryz.f287,loopOf] at hB
    subst hB
    rw [RL_eq]
    simp -implicitDefEqProofs only [go_sem,simprocAttr,h1,hg,hg2,rowV,hsh,hq,Int.toNat_natCast]
    simp only [List.find?_cons,hq]
    all_goals rfl
  | false =>
   rcases hX with ⟨rfl,rfl,rfl⟩ | ⟨rfl,rfl,rfl⟩
   ·unfold Loop at hB
    simp -implicitDefEqProofs only [go_sem,simprocAttr,Tryz.f287,loopOf] at hB
    subst hB
    rw [RL_eq]
    simp -implicitDefEqProofs only [go_sem,simprocAttr,h1,hg,hg2,rowV,hsh,hq,hw,Int.toNat_natCast]
    rw [ih]
    simp only [List.find?_cons,hq]
    cases List.find? (fun v=>showS v==s) (List.drop (i+1) rows)<;>rfl
   ·unfold Loop at hB
    simp -implicitDefEqProofs only [go_sem,simprocAttr,Tryz.f287,loopOf] at hB
    subst hB
    rw [RL_eq]
    simp -implicitDefEqProofs only [go_sem,simprocAttr,h1,hg,hg2,rowV,hsh,hq,hw,Int.toNat_natCast]
    rw [ih]
    simp only [List.find?_cons,hq]
    cases List.find? (fun v=>showS v==s) (List.drop (i+1) rows)<;>rfl
theorem opt_len {α:Type} (p:Prop) [Decidable p] (x:α):(if p then [x] else []).length≤1:=by split<;>simp
theorem cands_len (s:List UInt8):(candsS s).length≤6:=by
 unfold candsS
 simp only [List.length_append,List.length_cons,List.length_nil]
 have h2:=opt_len (1 < s.length∧s[0]? = some 39) (textS (Lib.replaceAll (cut s 1 (s.length - 1)) [39,39] [39]))
 have h3:=opt_len ((dreadS (Lib.trimPrefix s [64])).k=4) (dreadS (Lib.trimPrefix s [64]))
 cases atoiN s with
 | none=>simp only [List.length_nil];omega
 | some n=>simp only [List.length_cons,List.length_nil];omega
theorem r_ReadValue (s:List UInt8) (hs:s.length≤10000000):R K (.call 287 [.str s] [])=some (.tup [enc (readRS s).1,I (readRS s).2],[]):=by
 obtain ⟨r,hr,hf⟩:=r_candidates s hs
 have hl:=cands_len s
 generalize hrows:candsS s=rows at hf hl
 have fin:readRS s=match rows.find? fun v=>showS v==s with
  | some v=>(v,0)
  | none=>(null,14):=by
  unfold readRS
  rw [hrows]<;>cases List.find? (fun v=>showS v==s) rows<;>rfl
 rw [fin]
 rcases hf with rfl | rfl
 ·rw [call_287]
  simp -implicitDefEqProofs only [go_sem,simprocAttr,Tryz.f287,hr]
  rw [l_Read s rows (by omega) _ _ 1 (.inl ⟨rfl,rfl,rfl⟩) _ rows.length 0 0 _ ?_ rfl (by omega),List.drop_zero]
  ·cases rows.find? fun v=>showS v==s with
   | some v=>rfl
   | none =>
    simp only [List.take_succ_cons,List.take_zero,List.take_nil]
    simp -implicitDefEqProofs only [go_sem,simprocAttr]
    all_goals rfl
  ·rfl
 ·rw [List.length_map] at hr
  rw [call_287]
  simp -implicitDefEqProofs only [go_sem,simprocAttr,Tryz.f287,hr]
  rw [l_Read s rows (by omega) _ _ 2 (.inr ⟨rfl,rfl,rfl⟩) _ rows.length 0 0 _ ?_ rfl (by omega),List.drop_zero]
  ·cases rows.find? fun v=>showS v==s with
   | some v=>rfl
   | none =>
    simp only [List.take_succ_cons,List.take_zero,List.take_nil]
    simp -implicitDefEqProofs only [go_sem,simprocAttr]
    all_goals rfl
  ·rfl
inductive Ln where
 | table (nm:List UInt8)
 | column (c:Col)
 | key (ks:List (List UInt8))
 | foreign (f:Fgn)
 | index (x:Idx)
def lnsT (t:Tbl):List Ln:=.table t.nm::(t.cols.map .column++(.key t.key::(t.fgn.map .foreign++t.idx.map .index)))
def lns (x:List Tbl):List Ln:=x.flatMap lnsT
def newT (nm:List UInt8):Tbl:=⟨nm,[],[],[],[]⟩
def putL (t:Tbl):Ln→Tbl
 | .table nm=>newT nm
 | .column c=>{ t with cols:=t.cols++[c] }
 | .key ks=>{ t with key:=ks }
 | .foreign f=>{ t with fgn:=t.fgn++[f] }
 | .index x=>{ t with idx:=t.idx++[x] }
def asmT:List Tbl→Tbl→List Ln→List Tbl
 | x,t,[]=>x++[t]
 | x,t,.table nm::r=>asmT (x++[t]) (newT nm) r
 | x,t,n::r=>asmT x (putL t n) r
def asmL:List Ln→Option (List Tbl)
 | []=>some []
 | .table nm::r=>some (asmT [] (newT nm) r)
 | _::_=>none
theorem asm_idx (x:List Tbl) (r:List Ln):∀ (l:List Idx) (t:Tbl),asmT x t (l.map .index++r)=asmT x { t with idx:=t.idx++l } r
 | [],t=>by simp
 | a::l,t=>by
  rw [List.map_cons,List.cons_append]
  simp only [asmT,putL]
  rw [asm_idx x r l]
  simp
theorem asm_fgn (x:List Tbl) (r:List Ln):∀ (l:List Fgn) (t:Tbl),asmT x t (l.map .foreign++r)=asmT x { t with fgn:=t.fgn++l } r
 | [],t=>by simp
 | a::l,t=>by
  rw [List.map_cons,List.cons_append]
  simp only [asmT,putL]
  rw [asm_fgn x r l]
  simp
theorem asm_cols (x:List Tbl) (r:List Ln):∀ (l:List Col) (t:Tbl),asmT x t (l.map .column++r)=asmT x { t with cols:=t.cols++l } r
 | [],t=>by simp
 | a::l,t=>by
  rw [List.map_cons,List.cons_append]
  simp only [asmT,putL]
  rw [asm_cols x r l]
  simp
theorem asm_one (x:List Tbl) (t:Tbl) (r:List Ln):asmT x (newT t.nm) (t.cols.map .column++(.key t.key::(t.fgn.map .foreign++(t.idx.map .index++r))))=asmT x t r:=by
 rw [asm_cols]
 simp only [asmT,putL]
 rw [asm_fgn,asm_idx]
 simp [newT]
theorem asm_more:∀ (y x:List Tbl) (t:Tbl),asmT x t (lns y)=x++t::y
 | [],x,t=>rfl
 | u::y,x,t=>by
  have e:lns (u::y)=.table u.nm::(u.cols.map .column++(.key u.key::(u.fgn.map .foreign++(u.idx.map .index++lns y)))):=by
   simp [lns,lnsT,List.flatMap_cons]
  rw [e]
  simp only [asmT]
  rw [asm_one,asm_more y]
  simp
theorem asm_lns:∀ x:List Tbl,asmL (lns x)=some x
 | []=>rfl
 | u::y=>by
  have e:lns (u::y)=.table u.nm::(u.cols.map .column++(.key u.key::(u.fgn.map .foreign++(u.idx.map .index++lns y)))):=by
   simp [lns,lnsT,List.flatMap_cons]
  rw [e]
  simp only [asmL]
  rw [asm_one,asm_more]
  rfl
def splitC (c:UInt8):List UInt8→List (List UInt8)
 | []=>[[]]
 | b::r=>if b=c then []::splitC c r else match splitC c r with
  | h::t=>(b::h)::t
  | []=>[[b]]
theorem splitC_app (c:UInt8):∀ (l r:List UInt8),c∉l→splitC c (l++c::r)=l::splitC c r
 | [],r,_=>by simp [splitC]
 | b::l,r,h=>by
  have h1:¬b=c:=fun e=>h (by simp [e])
  have h2:c∉l:=fun e=>h (by simp [e])
  rw [List.cons_append]
  simp only [splitC]
  rw [if_neg h1,splitC_app c l r h2]
def linesOf (s:List UInt8):Option (List (List UInt8)):=if (splitC 10 s).getLast? = some [] then some (splitC 10 s).dropLast else none
theorem split_lines:∀ ls:List (List UInt8),(∀ l∈ls,(10:UInt8)∉l)→splitC 10 (ls.flatMap fun l=>l++[10])=ls++[[]]
 | [],_=>rfl
 | l::ls,h=>by
  rw [List.flatMap_cons,List.append_assoc]
  have:=splitC_app 10 l (ls.flatMap fun l=>l++[10]) (h l (by simp))
  simp only [List.cons_append,List.nil_append] at this ⊢
  rw [this,split_lines ls fun m hm=>h m (by simp [hm])]
theorem linesOf_lines (ls:List (List UInt8)) (h:∀ l∈ls,(10:UInt8)∉l):linesOf (ls.flatMap fun l=>l++[10])=some ls:=by
 unfold linesOf
 rw [split_lines ls h]
 simp
def txtOf (lnT:Ln→List UInt8) (x:List Tbl):List UInt8:=((lns x).map lnT).flatMap fun l=>l++[10]
def readAll (p:List UInt8→Option Ln):List (List UInt8)→Option (List Ln)
 | []=>some []
 | l::r=>match p l,readAll p r with
  | some n,some ns=>some (n::ns)
  | _,_=>none
theorem readAll_back {p:List UInt8→Option Ln} {lnT:Ln→List UInt8}:∀ ns:List Ln,(∀ n∈ns,p (lnT n)=some n)→readAll p (ns.map lnT)=some ns
 | [],_=>rfl
 | n::ns,h=>by
  simp only [List.map_cons,readAll]
  rw [h n (by simp),readAll_back ns fun m hm=>h m (by simp [hm])]
theorem readAll_sound {p:List UInt8→Option Ln} {W:Ln→Prop} (hp:∀ l n,p l=some n→W n):∀ (ls:List (List UInt8)) (ns:List Ln),readAll p ls=some ns→∀ n∈ns,W n
 | [],ns,h=>by
  obtain rfl:=Option.some.inj h
  simp
 | l::ls,ns,h=>by
  simp only [readAll] at h
  split at h
  ·rename_i n ms h1 h2
   obtain rfl:=Option.some.inj h
   intro k hk
   rcases List.mem_cons.1 hk with rfl | hk
   ·exact hp l _ h1
   ·exact readAll_sound hp ls ms h2 k hk
  ·simp at h
def rdL (lnT:Ln→List UInt8) (p:List UInt8→Option Ln) (asm:List Ln→Option (List Tbl)) (s:List UInt8):Option (List Tbl):=match linesOf s with
 | none=>none
 | some ls=>match readAll p ls with
  | none=>none
  | some ns=>match asm ns with
   | none=>none
   | some y=>if txtOf lnT y=s then some y else none
structure Reads2 (lnT:Ln→List UInt8) (W:Ln→Prop) (p:List UInt8→Option Ln) (asm:List Ln→Option (List Tbl)):Prop where
 sound:∀ l n,p l=some n→W n
 back:∀ n,W n→p (lnT n)=some n
 whole:∀ ns y,(∀ n∈ns,W n)→asm ns=some y→∀ n∈lns y,W n
 asmB:∀ y,asm (lns y)=some y
theorem rd_of {lnT:Ln→List UInt8} {W:Ln→Prop} {p q:List UInt8→Option Ln} {a b:List Ln→Option (List Tbl)} (hN:∀ n,W n→(10:UInt8)∉lnT n) (hp:Reads2 lnT W p a) (hq:Reads2 lnT W q b) {s:List UInt8} {y:List Tbl} (h:rdL lnT p a s=some y):rdL lnT q b s=some y:=by
 unfold rdL at h
 split at h
 ·simp at h
 rename_i ls e1
 split at h
 ·simp at h
 rename_i ns e2
 split at h
 ·simp at h
 rename_i z e3
 split at h
 ·rename_i e4
  obtain rfl:=Option.some.inj h
  have hW:=hp.whole ns z (readAll_sound hp.sound ls ns e2) e3
  have hl:linesOf s=some ((lns z).map lnT):=by
   rw [←e4]
   exact linesOf_lines _ fun l hl=>by
    obtain ⟨n,hn,rfl⟩:=List.mem_map.1 hl
    exact hN n (hW n hn)
  unfold rdL
  rw [hl]
  simp only
  rw [readAll_back (lns z) fun n hn=>hq.back n (hW n hn)]
  simp only
  rw [hq.asmB]
  simp only
  rw [if_pos e4]
 ·simp at h
theorem rd_same {lnT:Ln→List UInt8} {W:Ln→Prop} {p q:List UInt8→Option Ln} {a b:List Ln→Option (List Tbl)} (hN:∀ n,W n→(10:UInt8)∉lnT n) (hp:Reads2 lnT W p a) (hq:Reads2 lnT W q b) (s:List UInt8):rdL lnT p a s=rdL lnT q b s:=by
 cases e:rdL lnT p a s with
 | some y=>exact (rd_of hN hp hq e).symm
 | none =>
  cases f:rdL lnT q b s with
  | none=>rfl
  | some y =>
   have:=rd_of hN hq hp f
   rw [e] at this
   simp at this
theorem splitC_one (c:UInt8):∀ l:List UInt8,c∉l→splitC c l=[l]
 | [],_=>rfl
 | b::l,h=>by
  have h1:¬b=c:=fun e=>h (by simp [e])
  simp only [splitC]
  rw [if_neg h1,splitC_one c l fun e=>h (by simp [e])]
def jnW:List (List UInt8)→List UInt8
 | []=>[]
 | [w]=>w
 | w::v::r=>w++32::jnW (v::r)
theorem splitC_jn:∀ ws:List (List UInt8),ws≠[]→(∀ w∈ws,(32:UInt8)∉w)→splitC 32 (jnW ws)=ws
 | [],h,_=>absurd rfl h
 | [w],_,h=>splitC_one 32 w (h w (by simp))
 | w::v::r,_,h=>by
  simp only [jnW]
  rw [splitC_app 32 w _ (h w (by simp)),splitC_jn (v::r) (by simp) fun u hu=>h u (by simp [hu])]
def scanQ:Bool→List UInt8→Option Bool
 | b,[]=>some b
 | b,c::r=>if c=39 then scanQ (!b) r else if c=32∧b=false then none else scanQ b r
def consH (c:UInt8):List (List UInt8)→List (List UInt8)
 | h::t=>(c::h)::t
 | []=>[[c]]
def qSp:Bool→List UInt8→List (List UInt8)
 | _,[]=>[[]]
 | b,c::r=>if c=39 then consH c (qSp (!b) r) else if c=32∧b=false then []::qSp false r else consH c (qSp b r)
theorem qSp_word:∀ (w:List UInt8) (b:Bool) (r:List UInt8),scanQ b w=some false→qSp b (w++32::r)=w::qSp false r
 | [],b,r,h=>by
  obtain rfl:=Option.some.inj h
  simp [qSp]
 | c::w,b,r,h=>by
  rw [List.cons_append]
  simp only [scanQ] at h
  simp only [qSp]
  by_cases h1:c=39
  ·rw [if_pos h1] at h ⊢
   rw [qSp_word w _ r h]
   rfl
  ·rw [if_neg h1] at h ⊢
   by_cases h2:c=32∧b=false
   ·rw [if_pos h2] at h;simp at h
   ·rw [if_neg h2] at h ⊢
    rw [qSp_word w _ r h]
    rfl
theorem qSp_one:∀ (w:List UInt8) (b b':Bool),scanQ b w=some b'→qSp b w=[w]
 | [],_,_,_=>rfl
 | c::w,b,b',h=>by
  simp only [scanQ] at h
  simp only [qSp]
  by_cases h1:c=39
  ·rw [if_pos h1] at h ⊢
   rw [qSp_one w _ _ h]
   rfl
  ·rw [if_neg h1] at h ⊢
   by_cases h2:c=32∧b=false
   ·rw [if_pos h2] at h;simp at h
   ·rw [if_neg h2] at h ⊢
    rw [qSp_one w _ _ h]
    rfl
theorem qSp_jn:∀ ws:List (List UInt8),ws≠[]→(∀ w∈ws,scanQ false w=some false)→qSp false (jnW ws)=ws
 | [],h,_=>absurd rfl h
 | [w],_,h=>qSp_one w _ _ (h w (by simp))
 | w::v::r,_,h=>by
  simp only [jnW]
  rw [qSp_word w false _ (h w (by simp)),qSp_jn (v::r) (by simp) fun u hu=>h u (by simp [hu])]
theorem scanQ_plain:∀ (w:List UInt8) (b:Bool),(32:UInt8)∉w→(39:UInt8)∉w→scanQ b w=some b
 | [],_,_,_=>rfl
 | c::w,b,h1,h2=>by
  simp only [scanQ]
  rw [if_neg (fun e=>h2 (by simp [e])),if_neg (fun e=>h1 (by simp [e.1])),scanQ_plain w b (fun e=>h1 (by simp [e])) fun e=>h2 (by simp [e])]
def dblQ (s:List UInt8):List UInt8:=s.flatMap fun c=>if c=39 then [39,39] else [c]
theorem scanQ_dbl:∀ (s r:List UInt8),scanQ true (dblQ s++r)=scanQ true r
 | [],_=>rfl
 | c::s,r=>by
  have e:dblQ (c::s)=(if c=39 then [39,39] else [c])++dblQ s:=by simp [dblQ]
  rw [e,List.append_assoc]
  by_cases h:c=39
  ·rw [if_pos h]
   simp [scanQ,scanQ_dbl s r]
  ·rw [if_neg h]
   simp [scanQ,h,scanQ_dbl s r]
theorem scanQ_text (s:List UInt8):scanQ false (39::(dblQ s++[39]))=some false:=by
 simp [scanQ,scanQ_dbl]
abbrev tabW:List UInt8:=[116,97,98,108,101]
abbrev colW:List UInt8:=[99,111,108,117,109,110]
abbrev keyW:List UInt8:=[107,101,121]
abbrev forW:List UInt8:=[102,111,114,101,105,103,110]
abbrev indW:List UInt8:=[105,110,100,101,120]
abbrev uniW:List UInt8:=[117,110,105,113,117,101]
abbrev nulW:List UInt8:=[110,117,108,108]
abbrev defW:List UInt8:=[100,101,102,97,117,108,116]
def nmB (s:List UInt8):Bool:=!s.isEmpty&&s.all (chB [95])
def kdT (k:Int):List UInt8:=if k=1 then [98,111,111,108] else if k=2 then [105,110,116] else if k=3 then [116,101,120,116] else [109,111,109,101,110,116]
def kdO (w:List UInt8):Option Int:=if w=[98,111,111,108] then some 1 else if w=[105,110,116] then some 2 else if w=[116,101,120,116] then some 3 else if w=[109,111,109,101,110,116] then some 4 else none
theorem kdO_back {k:Int} (h:1≤k∧k≤4):kdO (kdT k)=some k:=by
 have:k=1∨k=2∨k=3∨k=4:=by omega
 rcases this with rfl | rfl | rfl | rfl<;>rfl
theorem kdO_some {w:List UInt8} {k:Int} (h:kdO w=some k):1≤k∧k≤4:=by
 unfold kdO at h
 split at h
 ·obtain rfl:=Option.some.inj h;omega
 split at h
 ·obtain rfl:=Option.some.inj h;omega
 split at h
 ·obtain rfl:=Option.some.inj h;omega
 split at h
 ·obtain rfl:=Option.some.inj h;omega
 ·simp at h
theorem chB_no {c:UInt8} (h:chB [95] c=true):c≠10∧c≠32∧c≠39:=by
 refine ⟨?_,?_,?_⟩<;>intro e<;>subst e<;>exact absurd h (by decide)
theorem nm_no {s:List UInt8} (h:nmB s=true):(10:UInt8)∉s∧(32:UInt8)∉s∧(39:UInt8)∉s:=by
 unfold nmB at h
 rw [Bool.and_eq_true] at h
 have h2:=List.all_eq_true.1 h.2
 exact ⟨fun e=>(chB_no (h2 _ e)).1 rfl,fun e=>(chB_no (h2 _ e)).2.1 rfl,fun e=>(chB_no (h2 _ e)).2.2 rfl⟩
section
variable (shw:Val→List UInt8) (rd:List UInt8→Option Val)
def dfW (c:Col):List (List UInt8):=if c.df.k=0 then [] else [defW,shw c.df]
def colT (c:Col):List (List UInt8):=c.nm::kdT c.kd::((if c.nl=true then [nulW] else [])++dfW shw c)
def lnTx:Ln→List UInt8
 | .table nm=>jnW [tabW,nm]
 | .column c=>jnW (colW::colT shw c)
 | .key ks=>jnW (keyW::ks)
 | .foreign f=>jnW (forW::f.nm::f.tb::f.cols)
 | .index x=>jnW ((if x.uq=true then uniW else indW)::x.nm::x.cols)
def pDf (nz:Bool):List (List UInt8)→Option Val
 | []=>some ⟨0,0,[]⟩
 | [d,w]=>if d=defW then (match rd w with
  | some v=>if nz=true∧v.k=0 then none else some v
  | none=>none) else none
 | _=>none
def pCol (nz:Bool) (r:List UInt8):Option Ln:=match qSp false r with
 | n::k::ws=>if nmB n=true then (match kdO k with
  | some kd=>(match ws with
   | w::ws'=>if w=nulW then (pDf rd nz ws').map fun v=>.column ⟨n,kd,true,v⟩ else (pDf rd nz (w::ws')).map fun v=>.column ⟨n,kd,false,v⟩
   | []=>some (.column ⟨n,kd,false,⟨0,0,[]⟩⟩))
  | none=>none) else none
 | _=>none
def pLn (nz:Bool) (l:List UInt8):Option Ln:=match splitC 32 l with
 | []=>none
 | w::ws =>
  if w=tabW then (match ws with
   | [n]=>if nmB n=true then some (.table n) else none
   | _=>none)
  else if w=colW then pCol rd nz (l.drop (w.length+1))
  else if w=keyW then (if ws.all nmB=true then some (.key ws) else none)
  else if w=forW then (match ws with
   | n::t::cs=>if (nmB n&&nmB t&&cs.all nmB)=true then some (.foreign ⟨n,cs,t⟩) else none
   | _=>none)
  else if w=uniW∨w=indW then (match ws with
   | n::cs=>if (nmB n&&cs.all nmB)=true then some (.index ⟨n,cs,decide (w=uniW)⟩) else none
   | []=>none)
  else none
def okLn:Ln→Prop
 | .table nm=>nmB nm=true
 | .column c=>nmB c.nm=true∧(1≤c.kd∧c.kd≤4)∧(c.df=⟨0,0,[]⟩∨(c.df.k≠0∧rd (shw c.df)=some c.df))
 | .key ks=>ks.all nmB=true
 | .foreign f=>(nmB f.nm&&nmB f.tb&&f.cols.all nmB)=true
 | .index x=>(nmB x.nm&&x.cols.all nmB)=true
structure ShowRead:Prop where
 text:∀ w v,rd w=some v→shw v=w
 zero:∀ w v,rd w=some v→v.k=0→v=⟨0,0,[]⟩
 word:∀ w v,rd w=some v→scanQ false w=some false∧(10:UInt8)∉w
end
section
variable (shw:Val→List UInt8) (rd:List UInt8→Option Val)
variable {shw rd}
theorem pDf_sound (h:ShowRead shw rd) {nz:Bool} {ws:List (List UInt8)} {v:Val} (e:pDf rd nz ws=some v):v=⟨0,0,[]⟩∨(v.k≠0∧rd (shw v)=some v):=by
 unfold pDf at e
 split at e
 ·exact .inl (Option.some.inj e).symm
 ·split at e
  ·split at e
   ·rename_i w u hu
    split at e
    ·simp at e
    ·obtain rfl:=Option.some.inj e
     by_cases h0:u.k=0
     ·exact .inl (h.zero _ _ hu h0)
     ·exact .inr ⟨h0,by rw [h.text _ _ hu];exact hu⟩
   ·simp at e
  ·simp at e
 ·simp at e
theorem pCol_sound (h:ShowRead shw rd) {nz:Bool} {r:List UInt8} {n:Ln} (e:pCol rd nz r=some n):okLn shw rd n:=by
 unfold pCol at e
 split at e
 ·split at e
  ·rename_i hn
   split at e
   ·rename_i kd hk
    have hkd:=kdO_some hk
    split at e
    ·split at e
     ·obtain ⟨v,hv,rfl⟩:=Option.map_eq_some_iff.1 e
      exact ⟨hn,hkd,pDf_sound h hv⟩
     ·obtain ⟨v,hv,rfl⟩:=Option.map_eq_some_iff.1 e
      exact ⟨hn,hkd,pDf_sound h hv⟩
    ·obtain rfl:=Option.some.inj e
     exact ⟨hn,hkd,.inl rfl⟩
   ·simp at e
  ·simp at e
 ·simp at e
theorem pLn_sound (h:ShowRead shw rd) {nz:Bool} {l:List UInt8} {n:Ln} (e:pLn rd nz l=some n):okLn shw rd n:=by
 unfold pLn at e
 split at e
 ·simp at e
 split at e
 ·split at e
  ·split at e
   ·rename_i hn;obtain rfl:=Option.some.inj e;exact hn
   ·simp at e
  ·simp at e
 split at e
 ·exact pCol_sound h e
 split at e
 ·split at e
  ·rename_i hn;obtain rfl:=Option.some.inj e;exact hn
  ·simp at e
 split at e
 ·split at e
  ·split at e
   ·rename_i hn;obtain rfl:=Option.some.inj e;exact hn
   ·simp at e
  ·simp at e
 split at e
 ·split at e
  ·split at e
   ·rename_i hn;obtain rfl:=Option.some.inj e;exact hn
   ·simp at e
  ·simp at e
 ·simp at e
end
theorem jn_head (w v:List UInt8) (r:List (List UInt8)):jnW (w::v::r)=w++32::jnW (v::r):=rfl
theorem all_nm {ks:List (List UInt8)} (h:ks.all nmB=true):∀ w∈ks,nmB w=true:=fun w hw=>List.all_eq_true.1 h w hw
theorem no10_jn:∀ ws:List (List UInt8),(∀ w∈ws,(10:UInt8)∉w)→(10:UInt8)∉jnW ws
 | [],_=>by simp [jnW]
 | [w],h=>h w (by simp)
 | w::v::r,h=>by
  rw [jn_head]
  intro e
  rcases List.mem_append.1 e with h1 | h1
  ·exact h w (by simp) h1
  ·rcases List.mem_cons.1 h1 with h2 | h2
   ·exact absurd h2 (by decide)
   ·exact no10_jn (v::r) (fun u hu=>h u (by simp [hu])) h2
section
variable {shw:Val→List UInt8} {rd:List UInt8→Option Val}
theorem colT_word (h:ShowRead shw rd) {c:Col} (hc:okLn shw rd (.column c)):∀ w∈colT shw c,scanQ false w=some false∧(10:UInt8)∉w:=by
 obtain ⟨h1,h2,h3⟩:=hc
 have n1:=nm_no h1
 intro w hw
 simp only [colT,List.mem_cons,List.mem_append] at hw
 rcases hw with rfl | rfl | hw | hw
 ·exact ⟨scanQ_plain _ _ n1.2.1 n1.2.2,n1.1⟩
 ·have:c.kd=1∨c.kd=2∨c.kd=3∨c.kd=4:=by omega
  rcases this with e | e | e | e<;>rw [e]<;>exact ⟨rfl,by decide⟩
 ·split at hw
  ·rw [List.mem_singleton] at hw;rw [hw];exact ⟨rfl,by decide⟩
  ·simp at hw
 ·unfold dfW at hw
  split at hw
  ·simp at hw
  ·rename_i h0
   rcases h3 with h3 | ⟨_,h3⟩
   ·rw [h3] at h0;exact absurd rfl h0
   ·simp only [List.mem_cons,List.not_mem_nil,or_false] at hw
    rcases hw with rfl | rfl
    ·exact ⟨rfl,by decide⟩
    ·exact h.word _ _ h3
theorem pCol_back (h:ShowRead shw rd) (nz:Bool) {c:Col} (hc:okLn shw rd (.column c)):pCol rd nz (jnW (colT shw c))=some (.column c):=by
 have hw:=colT_word h hc
 obtain ⟨h1,h2,h3⟩:=hc
 unfold pCol
 rw [qSp_jn _ (by simp [colT]) fun w hw'=>(hw w hw').1]
 simp only [colT]
 rw [if_pos h1,kdO_back h2]
 simp only
 have e4:∀ b:Bool,pDf rd nz (dfW shw c)=some c.df:=fun _=>by
  rcases h3 with h3 | ⟨h0,h3⟩
  ·unfold dfW;rw [h3];rfl
  ·unfold dfW
   rw [if_neg h0]
   unfold pDf
   simp only
   rw [if_pos (by simp),h3]
   simp only
   rw [if_neg (fun e=>h0 e.2)]
 obtain ⟨nm,kd,nl,df⟩:=c
 simp only at *
 cases nl with
 | true =>
  simp only [if_true,List.cons_append,List.nil_append]
  rw [e4 true]
  rfl
 | false =>
  simp only [Bool.false_eq_true,if_false,List.nil_append]
  have e5:=e4 true
  rcases h3 with h3 | ⟨h0,h3⟩
  ·subst h3
   rfl
  ·unfold dfW at e5 ⊢
   rw [if_neg h0] at e5 ⊢
   simp only
   rw [if_neg (by decide),e5]
   rfl
theorem pLn_back (h:ShowRead shw rd) (nz:Bool):∀ n:Ln,okLn shw rd n→pLn rd nz (lnTx shw n)=some n
 | .table nm,hn=>by
  have n1:=nm_no hn
  show pLn rd nz (jnW [tabW,nm])=_
  unfold pLn
  rw [splitC_jn _ (by simp) (by
   intro w hw
   simp only [List.mem_cons,List.not_mem_nil,or_false] at hw
   rcases hw with rfl | rfl
   ·decide
   ·exact n1.2.1)]
  simp only
  rw [if_pos (by simp),if_pos (show nmB nm=true from hn)]
 | .column c,hn=>by
  show pLn rd nz (colW++32::jnW (colT shw c))=_
  unfold pLn
  rw [splitC_app 32 colW _ (by decide)]
  simp only
  rw [if_neg (by decide),if_pos (by simp)]
  exact pCol_back h nz hn
 | .key ks,hn=>by
  show pLn rd nz (jnW (keyW::ks))=_
  unfold pLn
  rw [splitC_jn _ (by simp) (by
   intro w hw
   rcases List.mem_cons.1 hw with rfl | hw
   ·decide
   ·exact (nm_no (all_nm hn w hw)).2.1)]
  simp only
  rw [if_neg (by decide),if_neg (by decide),if_pos (by simp),if_pos (show ks.all nmB=true from hn)]
 | .foreign f,hn=>by
  have hn':=hn
  simp only [okLn,Bool.and_eq_true] at hn'
  show pLn rd nz (jnW (forW::f.nm::f.tb::f.cols))=_
  unfold pLn
  rw [splitC_jn _ (by simp) (by
   intro w hw
   simp only [List.mem_cons] at hw
   rcases hw with rfl | rfl | rfl | hw
   ·decide
   ·exact (nm_no hn'.1.1).2.1
   ·exact (nm_no hn'.1.2).2.1
   ·exact (nm_no (all_nm hn'.2 w hw)).2.1)]
  simp only
  rw [if_neg (by decide),if_neg (by decide),if_neg (by decide),if_pos (by simp),if_pos (show (nmB f.nm&&nmB f.tb&&f.cols.all nmB)=true from hn)]
 | .index x,hn=>by
  have hn':=hn
  simp only [okLn,Bool.and_eq_true] at hn'
  obtain ⟨nm,cs,uq⟩:=x
  cases uq with
  | true =>
   show pLn rd nz (jnW (uniW::nm::cs))=_
   unfold pLn
   rw [splitC_jn _ (by simp) (by
    intro w hw
    simp only [List.mem_cons] at hw
    rcases hw with rfl | rfl | hw
    ·decide
    ·exact (nm_no hn'.1).2.1
    ·exact (nm_no (all_nm hn'.2 w hw)).2.1)]
   simp only
   rw [if_neg (by decide),if_neg (by decide),if_neg (by decide),if_neg (by decide),if_pos (by simp),if_pos (show (nmB nm&&cs.all nmB)=true from hn)]
   rfl
  | false =>
   show pLn rd nz (jnW (indW::nm::cs))=_
   unfold pLn
   rw [splitC_jn _ (by simp) (by
    intro w hw
    simp only [List.mem_cons] at hw
    rcases hw with rfl | rfl | hw
    ·decide
    ·exact (nm_no hn'.1).2.1
    ·exact (nm_no (all_nm hn'.2 w hw)).2.1)]
   simp only
   rw [if_neg (by decide),if_neg (by decide),if_neg (by decide),if_neg (by decide),if_pos (by simp),if_pos (show (nmB nm&&cs.all nmB)=true from hn)]
   rfl
end
def asmPT:List Tbl→Tbl→Bool→List Ln→Option (List Tbl)
 | x,t,k,[]=>if k=true then some (x++[t]) else none
 | x,t,k,.table nm::r=>if k=true then asmPT (x++[t]) (newT nm) false r else none
 | x,t,k,.key ks::r=>if k=true then none else asmPT x (putL t (.key ks)) true r
 | x,t,k,.column c::r=>asmPT x (putL t (.column c)) k r
 | x,t,k,.foreign f::r=>asmPT x (putL t (.foreign f)) k r
 | x,t,k,.index i::r=>asmPT x (putL t (.index i)) k r
def asmP:List Ln→Option (List Tbl)
 | []=>some []
 | .table nm::r=>asmPT [] (newT nm) false r
 | _::_=>none
theorem asmPT_asm:∀ (r:List Ln) (x:List Tbl) (t:Tbl) (k:Bool) (y:List Tbl),asmPT x t k r=some y→asmT x t r=y
 | [],x,t,k,y,h=>by
  simp only [asmPT] at h
  split at h
  ·exact Option.some.inj h
  ·simp at h
 | .table nm::r,x,t,k,y,h=>by
  simp only [asmPT] at h
  split at h
  ·exact asmPT_asm r _ _ _ y h
  ·simp at h
 | .key ks::r,x,t,k,y,h=>by
  simp only [asmPT] at h
  split at h
  ·simp at h
  ·exact asmPT_asm r _ _ _ y h
 | .column c::r,x,t,k,y,h=>asmPT_asm r _ _ _ y h
 | .foreign f::r,x,t,k,y,h=>asmPT_asm r _ _ _ y h
 | .index i::r,x,t,k,y,h=>asmPT_asm r _ _ _ y h
theorem asmP_asm {ns:List Ln} {y:List Tbl} (h:asmP ns=some y):asmL ns=some y:=by
 unfold asmP at h
 split at h
 ·exact h
 ·simp only [asmL]
  rw [asmPT_asm _ _ _ _ _ h]
 ·simp at h
theorem asmP_idx (x:List Tbl) (k:Bool) (r:List Ln):∀ (l:List Idx) (t:Tbl),asmPT x t k (l.map .index++r)=asmPT x { t with idx:=t.idx++l } k r
 | [],t=>by simp
 | a::l,t=>by
  rw [List.map_cons,List.cons_append]
  simp only [asmPT,putL]
  rw [asmP_idx x k r l]
  simp
theorem asmP_fgn (x:List Tbl) (k:Bool) (r:List Ln):∀ (l:List Fgn) (t:Tbl),asmPT x t k (l.map .foreign++r)=asmPT x { t with fgn:=t.fgn++l } k r
 | [],t=>by simp
 | a::l,t=>by
  rw [List.map_cons,List.cons_append]
  simp only [asmPT,putL]
  rw [asmP_fgn x k r l]
  simp
theorem asmP_cols (x:List Tbl) (k:Bool) (r:List Ln):∀ (l:List Col) (t:Tbl),asmPT x t k (l.map .column++r)=asmPT x { t with cols:=t.cols++l } k r
 | [],t=>by simp
 | a::l,t=>by
  rw [List.map_cons,List.cons_append]
  simp only [asmPT,putL]
  rw [asmP_cols x k r l]
  simp
theorem asmP_one (x:List Tbl) (t:Tbl) (r:List Ln):asmPT x (newT t.nm) false (t.cols.map .column++(.key t.key::(t.fgn.map .foreign++(t.idx.map .index++r))))=asmPT x t true r:=by
 rw [asmP_cols]
 simp only [asmPT,putL]
 rw [if_neg (by decide),asmP_fgn,asmP_idx]
 simp [newT]
theorem lns_cons (u:Tbl) (y:List Tbl):lns (u::y)=.table u.nm::(u.cols.map .column++(.key u.key::(u.fgn.map .foreign++(u.idx.map .index++lns y)))):=by
 simp [lns,lnsT,List.flatMap_cons]
theorem asmP_more:∀ (y x:List Tbl) (t:Tbl),asmPT x t true (lns y)=some (x++t::y)
 | [],x,t=>rfl
 | u::y,x,t=>by
  rw [lns_cons]
  simp only [asmPT,if_true]
  rw [asmP_one,asmP_more y]
  simp
theorem asmP_lns:∀ x:List Tbl,asmP (lns x)=some x
 | []=>rfl
 | u::y=>by
  rw [lns_cons]
  simp only [asmP]
  rw [asmP_one,asmP_more]
  rfl
section
variable {shw:Val→List UInt8} {rd:List UInt8→Option Val}
def okTb (shw:Val→List UInt8) (rd:List UInt8→Option Val) (t:Tbl):Prop:=∀ n∈lnsT t,okLn shw rd n
theorem ok_new {nm:List UInt8} (h:nmB nm=true):okTb shw rd (newT nm):=by
 intro n hn
 simp [lnsT,newT] at hn
 rcases hn with rfl | rfl
 ·exact h
 ·rfl
theorem ok_put {t:Tbl} (ht:okTb shw rd t):∀ {n:Ln},okLn shw rd n→okTb shw rd (putL t n)
 | .table nm,h=>ok_new h
 | .column c,h=>fun m hm=>by
  simp only [lnsT,putL,List.map_append,List.map_cons,List.map_nil,List.mem_cons,List.mem_append,List.mem_map,List.not_mem_nil,or_false] at hm
  rcases hm with rfl | (⟨a,ha,rfl⟩ | rfl) | rfl | ⟨a,ha,rfl⟩ | ⟨a,ha,rfl⟩
  ·exact ht _ (by simp [lnsT])
  ·exact ht _ (by simp [lnsT,ha])
  ·exact h
  ·exact ht _ (by simp [lnsT])
  ·exact ht _ (by simp [lnsT,ha])
  ·exact ht _ (by simp [lnsT,ha])
 | .key ks,h=>fun m hm=>by
  simp only [lnsT,putL,List.mem_cons,List.mem_append,List.mem_map] at hm
  rcases hm with rfl | ⟨a,ha,rfl⟩ | rfl | ⟨a,ha,rfl⟩ | ⟨a,ha,rfl⟩
  ·exact ht _ (by simp [lnsT])
  ·exact ht _ (by simp [lnsT,ha])
  ·exact h
  ·exact ht _ (by simp [lnsT,ha])
  ·exact ht _ (by simp [lnsT,ha])
 | .foreign f,h=>fun m hm=>by
  simp only [lnsT,putL,List.map_append,List.map_cons,List.map_nil,List.mem_cons,List.mem_append,List.mem_map,List.not_mem_nil,or_false] at hm
  rcases hm with rfl | ⟨a,ha,rfl⟩ | rfl | (⟨a,ha,rfl⟩ | rfl) | ⟨a,ha,rfl⟩
  ·exact ht _ (by simp [lnsT])
  ·exact ht _ (by simp [lnsT,ha])
  ·exact ht _ (by simp [lnsT])
  ·exact ht _ (by simp [lnsT,ha])
  ·exact h
  ·exact ht _ (by simp [lnsT,ha])
 | .index i,h=>fun m hm=>by
  simp only [lnsT,putL,List.map_append,List.map_cons,List.map_nil,List.mem_cons,List.mem_append,List.mem_map,List.not_mem_nil,or_false] at hm
  rcases hm with rfl | ⟨a,ha,rfl⟩ | rfl | ⟨a,ha,rfl⟩ | ⟨a,ha,rfl⟩ | rfl
  ·exact ht _ (by simp [lnsT])
  ·exact ht _ (by simp [lnsT,ha])
  ·exact ht _ (by simp [lnsT])
  ·exact ht _ (by simp [lnsT,ha])
  ·exact ht _ (by simp [lnsT,ha])
  ·exact h
theorem ok_asm:∀ (r:List Ln) (x:List Tbl) (t:Tbl),(∀ u∈x,okTb shw rd u)→okTb shw rd t→(∀ n∈r,okLn shw rd n)→∀ u∈asmT x t r,okTb shw rd u
 | [],x,t,hx,ht,_=>fun u hu=>by
  rcases List.mem_append.1 hu with h | h
  ·exact hx u h
  ·rw [List.mem_singleton] at h;rw [h];exact ht
 | .table nm::r,x,t,hx,ht,hr=>ok_asm r _ _ (fun u hu=>by
   rcases List.mem_append.1 hu with h | h
   ·exact hx u h
   ·rw [List.mem_singleton] at h;rw [h];exact ht) (ok_new (show nmB nm=true from hr (.table nm) (by simp))) fun n hn=>hr n (by simp [hn])
 | .key ks::r,x,t,hx,ht,hr=>ok_asm r _ _ hx (ok_put ht (hr _ (by simp))) fun n hn=>hr n (by simp [hn])
 | .column c::r,x,t,hx,ht,hr=>ok_asm r _ _ hx (ok_put ht (hr _ (by simp))) fun n hn=>hr n (by simp [hn])
 | .foreign f::r,x,t,hx,ht,hr=>ok_asm r _ _ hx (ok_put ht (hr _ (by simp))) fun n hn=>hr n (by simp [hn])
 | .index i::r,x,t,hx,ht,hr=>ok_asm r _ _ hx (ok_put ht (hr _ (by simp))) fun n hn=>hr n (by simp [hn])
theorem ok_whole {ns:List Ln} {y:List Tbl} (h:∀ n∈ns,okLn shw rd n) (e:asmL ns=some y):∀ n∈lns y,okLn shw rd n:=by
 intro n hn
 obtain ⟨t,ht,hm⟩:=List.mem_flatMap.1 hn
 unfold asmL at e
 split at e
 ·obtain rfl:=Option.some.inj e
  simp at ht
 ·rename_i nm r
  obtain rfl:=Option.some.inj e
  exact ok_asm _ [] _ (by simp) (ok_new (show nmB nm=true from h (.table nm) (by simp))) (fun m hm=>h m (by simp [hm])) t ht n hm
 ·simp at e
theorem no10_ln (h:ShowRead shw rd):∀ n:Ln,okLn shw rd n→(10:UInt8)∉lnTx shw n
 | .table nm,hn=>no10_jn [tabW,nm] (by
  intro w hw
  simp only [List.mem_cons,List.not_mem_nil,or_false] at hw
  rcases hw with rfl | rfl
  ·decide
  ·exact (nm_no hn).1)
 | .column c,hn=>no10_jn (colW::colT shw c) (by
  intro w hw
  rcases List.mem_cons.1 hw with rfl | hw
  ·decide
  ·exact (colT_word h hn w hw).2)
 | .key ks,hn=>no10_jn (keyW::ks) (by
  intro w hw
  rcases List.mem_cons.1 hw with rfl | hw
  ·decide
  ·exact (nm_no (all_nm hn w hw)).1)
 | .foreign f,hn=>by
  simp only [okLn,Bool.and_eq_true] at hn
  refine no10_jn (forW::f.nm::f.tb::f.cols) ?_
  intro w hw
  simp only [List.mem_cons] at hw
  rcases hw with rfl | rfl | rfl | hw
  ·decide
  ·exact (nm_no hn.1.1).1
  ·exact (nm_no hn.1.2).1
  ·exact (nm_no (all_nm hn.2 w hw)).1
 | .index x,hn=>by
  simp only [okLn,Bool.and_eq_true] at hn
  refine no10_jn ((if x.uq=true then uniW else indW)::x.nm::x.cols) ?_
  intro w hw
  simp only [List.mem_cons] at hw
  rcases hw with rfl | rfl | hw
  ·split<;>decide
  ·exact (nm_no hn.1).1
  ·exact (nm_no (all_nm hn.2 w hw)).1
theorem readers_same (h:ShowRead shw rd) (s:List UInt8):rdL (lnTx shw) (pLn rd true) asmP s=rdL (lnTx shw) (pLn rd false) asmL s :=
 rd_same (W:=okLn shw rd) (no10_ln h) ⟨fun _ _ e=>pLn_sound h e,pLn_back h true,fun _ _ hW e=>ok_whole hW (asmP_asm e),asmP_lns⟩ ⟨fun _ _ e=>pLn_sound h e,pLn_back h false,fun _ _ hW e=>ok_whole hW e,asm_lns⟩ s
end
structure FitT (t:Tbl):Prop where
 nm:t.nm.length≤100000000
 cols:t.cols.length≤1000000
 key:t.key.length≤1000000
 fgn:t.fgn.length≤1000000
 idx:t.idx.length≤1000000
 col:∀ c∈t.cols,c.nm.length≤100000000
 fg:∀ f∈t.fgn,f.nm.length≤100000000∧f.cols.length≤1000000
 ix:∀ x∈t.idx,x.nm.length≤100000000∧x.cols.length≤1000000
abbrev tbH (t:Tbl):Heap:=[.cells (tblC t)]
def colE (t:Tbl) (i:Nat):Int:=match t.cols[i]? with
 | some c=>if tallB c.nm=false then 5 else if ixN c.nm (t.cols.map (·.nm)) 0 < (i:Int) then 6 else chkS c.kd c.df
 | none=>0
theorem k_columns (t:Tbl) (ht:FitT t) (i:Nat) (hi:i < t.cols.length):R K (.call 197 [I (i:Int),.ptr 0 0] (tbH t))=some (I (colE t i),tbH t):=by
 obtain ⟨c,hc⟩:=some_at hi
 have hg:=col_get hc
 have hm:c∈t.cols:=List.mem_of_getElem? hc
 have h1:=c_isTall c.nm (ht.col c hm)
 have h2:=c_columnAt t c.nm ht.cols
 have h3:=c_within2 c.kd 1 4
 have h4:=c_Check c.kd c.df.k c.df.n c.df.s
 unfold colE
 rw [hc]
 simp only
 have h5:within c.kd 1 4=false→chkS c.kd c.df=4:=fun h=>by simp [chkS,h]
 simp only [tblA,tblC,colC] at h2 hg
 generalize chkS c.kd ⟨c.df.k,c.df.n,c.df.s⟩=y at *
 generalize tallB c.nm=x at *
 rw [call_197]
 simp -implicitDefEqProofs only [go_sem,simprocAttr,Tryz.f197,tblC,colC,hg,h1,h2,h3,h4]
 repeat' ((first | apply split_cond | apply split_yes | apply split_no)<;>intro hc<;>simp -implicitDefEqProofs only [hc,go_sem,simprocAttr,tblC,colC,hg,h1,h2,h3,h4])
 all_goals (simp_all [tblC]<;>(try (intro;omega)))
theorem v_columns (t:Tbl) (ht:FitT t):Tells (tbH t) (.fn 197 [.ptr 0 0]) (colE t) t.cols.length:=fun i hi=>by
 have hk:=k_columns t ht i hi
 simp only [tbH,tblC] at hk ⊢
 simp -implicitDefEqProofs only [go_sem,simprocAttr,hk]
theorem tbH_fits (t:Tbl):under (tbH t).length (locsH (tbH t))=true:=rfl
def columnsE (t:Tbl):Int:=evE (colE t) 0 t.cols.length
theorem c_columns (t:Tbl) (ht:FitT t):R K (.call 102 [tblA t] [])=some (I (columnsE t),[]):=by
 have hi:=c_every (.fn 197 [.ptr 0 0]) (tbH t) (colE t) t.cols.length ht.cols (tbH_fits t) (v_columns t ht)
 unfold columnsE
 simp only [tbH,tblC] at hi
 rw [call_102]
 simp -implicitDefEqProofs only [go_sem,simprocAttr,Tryz.f102,tblC,hi,List.length_map]
theorem str_get {l:List (List UInt8)} {j:Nat} {c:List UInt8} (h:l[j]? = some c):at? (SLs l) (j:Int)=some [.str c]:=at_get (by simp [h])
theorem l_ixS (n:List UInt8) (l:List (List UInt8)) (hl:l.length≤1000000) (ks:List It):∀ (q j:Nat) (i:Int) (Bo:Code),Loop Tryz.f92 0 Bo→i=(j:Int)→l.length=j+q →
  RL K (.run 92 0 (.code Bo::.lp Bo (some ([0,1,7,8],[])) 0::.blk 0 0::ks) [(0,.rows (SLs l)),(1,.str n),(7,I (l.length:Int)),(8,I i)] []) =
  if ixN n (l.drop j) j=-1 then R K (.run 92 0 ks [] []) else some (I (ixN n (l.drop j) j),[])
 | 0,j,i,Bo,hB,hi,hq=>by
  subst hi
  have d:¬(j:Int) < (l.length:Int):=by omega
  rw [List.drop_of_length_le (by omega),show ixN n [] j=-1 from rfl,if_pos rfl]
  unfold Loop at hB
  simp -implicitDefEqProofs only [go_sem,simprocAttr,Tryz.f92,loopOf] at hB
  subst hB
  rw [RL_eq]
  simp -implicitDefEqProofs only [go_sem,simprocAttr,d]
 | q+1,j,i,Bo,hB,hi,hq=>by
  subst hi
  have hB':=hB
  have d:(j:Int) < (l.length:Int):=by omega
  have h7:wrapI .i64 ((j:Int)+1)=((j+1:Nat):Int):=next_id (n:=l.length) (by omega) (by omega)
  obtain ⟨c,hcj⟩:=some_at (l:=l) (i:=j) (by omega)
  have hg:=str_get hcj
  have ih:=l_ixS n l hl ks q (j+1) _ Bo hB' rfl (by omega)
  rw [drop_get hcj]
  by_cases hk:c=n
  ·have e1:ixN n (c::l.drop (j+1)) j=(j:Int):=by simp only [ixN];rw [if_pos hk]
   have dk:(n==c)=true:=by simpa using hk.symm
   rw [e1,if_neg (by omega)]
   unfold Loop at hB
   simp -implicitDefEqProofs only [go_sem,simprocAttr,Tryz.f92,loopOf] at hB
   subst hB
   rw [RL_eq]
   simp -implicitDefEqProofs only [go_sem,simprocAttr,d,h7,hg,dk]
  ·have e1:ixN n (c::l.drop (j+1)) j=ixN n (l.drop (j+1)) (j+1):=by conv=>lhs;simp only [ixN];rw [if_neg hk]
   have dk:(n==c)=false:=by simpa using fun e:n=c=>hk e.symm
   rw [e1]
   unfold Loop at hB
   simp -implicitDefEqProofs only [go_sem,simprocAttr,Tryz.f92,loopOf] at hB
   subst hB
   rw [RL_eq]
   simp -implicitDefEqProofs only [go_sem,simprocAttr,d,h7,hg,dk]
   rw [ih]
theorem c_ixS (n:List UInt8) (l:List (List UInt8)) (hl:l.length≤1000000):R K (.call 92 [.rows (SLs l),.str n] [])=some (I (ixN n l 0),[]):=by
 have lk:=fun ks B hB=>l_ixS n l hl ks l.length 0 0 B hB rfl (by omega)
 simp only [List.drop_zero] at lk
 rw [call_92]
 simp -implicitDefEqProofs only [go_sem,simprocAttr,Tryz.f92,List.length_map]
 rw [lk _ _ ?_]
 ·split
  ·rename_i h0
   rw [h0]
   simp -implicitDefEqProofs only [go_sem,simprocAttr]
  ·rfl
 ·rfl
theorem c_contains (n:List UInt8) (l:List (List UInt8)) (hl:l.length≤1000000):R K (.call 44 [.rows (SLs l),.str n] [])=some (.bool (l.contains n),[]):=by
 have hi:=c_ixS n l hl
 have e:decide ((0:Int)≤ixN n l 0)=l.contains n:=by
  rw [Bool.eq_iff_iff,decide_eq_true_eq,List.contains_iff_mem]
  have h1:=ixN_mem n l 0
  rcases ixN_ge n l 0 with h2 | h2
  ·rw [h2];simp [h1.1 h2]
  ·constructor
   ·intro _
    refine Classical.byContradiction fun h3=>?_
    have:=h1.2 h3
    omega
   ·intro _;omega
 rw [call_44]
 simp -implicitDefEqProofs only [go_sem,simprocAttr,Tryz.f44,hi,e]
theorem ixN_col {t:Tbl} {n:List UInt8} (h:¬ixN n (t.cols.map (·.nm)) 0 < 0):∃ (a:Nat) (c:Col),ixN n (t.cols.map (·.nm)) 0=(a:Int)∧t.cols[a]? = some c:=by
 have h1:=ixN_lt n (t.cols.map (·.nm)) 0
 rw [List.length_map] at h1
 obtain ⟨a,ha⟩:=Int.eq_ofNat_of_zero_le (Int.not_lt.1 h)
 exact ⟨a,t.cols[a]'(by omega),ha,List.getElem?_eq_getElem _⟩
def namesE (t:Tbl) (l:List (List UInt8)) (m:Col→Int) (i:Nat):Int:=match l[i]? with
 | some n=>if ixN n (t.cols.map (·.nm)) 0 < 0 then 5 else if (l.take i).contains n=true then 6 else (match t.cols[(ixN n (t.cols.map (·.nm)) 0).toNat]? with
  | some c=>m c
  | none=>0)
 | none=>0
abbrev nsH (t:Tbl) (l:List (List UInt8)) (g:Nat):Heap:=[.cells (tblC t),.cells [.rows (SLs l)],.cells [.fn g []]]
theorem SLs_app (a:List (List UInt8)) (s:List UInt8):SLs a++[[AV.str s]]=SLs (a++[s]):=by simp [SLs]
theorem locsR_SLs:∀ l:List (List UInt8),locsR (SLs l)=[]
 | []=>rfl
 | s::l=>by simpa [SLs,locsR,locsL,locs] using locsR_SLs l
theorem SLs_len (a:List (List UInt8)):(SLs a).length=a.length:=by simp [SLs]
theorem take_SLs (l:List (List UInt8)) (i:Nat):List.take i (SLs l)=SLs (l.take i):=by simp [SLs,List.map_take]
theorem allLen_SLs:∀ l:List (List UInt8),allLen 1 (SLs l)=true
 | []=>rfl
 | s::l=>by simpa [allLen] using allLen_SLs l
theorem k_names (t:Tbl) (ht:FitT t) (l:List (List UInt8)) (hl:l.length≤1000000) (g:Nat) (hG:g=105∨g=109) (m:Col→Int) (hm:∀ c,R K (.call g [colA c] [])=some (I (m c),[])) (i:Nat) (hi:i < l.length) :
  R K (.call 200 [I (i:Int),.ptr 0 0,.ptr 1 0,.ptr 2 0] (nsH t l g))=some (I (namesE t l m i),nsH t l g):=by
 obtain ⟨n,hn⟩:=some_at hi
 have hg:=str_get hn
 have h2:=c_columnAt t n ht.cols
 have h3:=c_contains n (l.take i) (by simp;omega)
 have g1:((i:Int)≤(l.length:Int))=True:=eq_true (by omega)
 have g2:((0:Int)≤(i:Int))=True:=eq_true (by omega)
 unfold namesE
 rw [hn]
 simp only
 simp only [tblA,tblC] at h2
 by_cases h4:ixN n (t.cols.map (·.nm)) 0 < 0
 ·rw [call_200]
  simp -implicitDefEqProofs only [go_sem,simprocAttr,Tryz.f200,tblC,hg,h2,h4]
  rfl
 ·obtain ⟨a,c,h5,h6⟩:=ixN_col h4
  have h7:=col_get h6
  have h8:=hm c
  rw [if_neg h4,h5,Int.toNat_natCast,h6]
  rw [h5] at h2
  have h9:((a:Int) < 0)=False:=eq_false (by omega)
  simp only [colA,colC] at h7 h8 ⊢
  generalize (l.take i).contains n=x at *
  rcases hG with rfl | rfl
  ·rw [call_200]
   simp -implicitDefEqProofs only [go_sem,simprocAttr,Tryz.f200,tblC,hg,h2,h9,h3,take_SLs,allLen_SLs,g1,g2,Int.toNat_natCast,Nat.sub_zero,List.length_map,h7,h8]
   repeat' ((first | apply split_cond | apply split_yes | apply split_no)<;>intro hc<;>simp -implicitDefEqProofs only [hc,go_sem,simprocAttr,tblC,hg,h2,h9,h3,take_SLs,allLen_SLs,g1,g2,Int.toNat_natCast,Nat.sub_zero,List.length_map,h7,h8])
   all_goals simp_all [tblC]
  ·rw [call_200]
   simp -implicitDefEqProofs only [go_sem,simprocAttr,Tryz.f200,tblC,hg,h2,h9,h3,take_SLs,allLen_SLs,g1,g2,Int.toNat_natCast,Nat.sub_zero,List.length_map,h7,h8]
   repeat' ((first | apply split_cond | apply split_yes | apply split_no)<;>intro hc<;>simp -implicitDefEqProofs only [hc,go_sem,simprocAttr,tblC,hg,h2,h9,h3,take_SLs,allLen_SLs,g1,g2,Int.toNat_natCast,Nat.sub_zero,List.length_map,h7,h8])
   all_goals simp_all [tblC]
theorem v_names (t:Tbl) (ht:FitT t) (l:List (List UInt8)) (hl:l.length≤1000000) (g:Nat) (hG:g=105∨g=109) (m:Col→Int) (hm:∀ c,R K (.call g [colA c] [])=some (I (m c),[])) :
  Tells (nsH t l g) (.fn 200 [.ptr 0 0,.ptr 1 0,.ptr 2 0]) (namesE t l m) l.length:=fun i hi=>by
 have hk:=k_names t ht l hl g hG m hm i hi
 simp only [nsH,tblC] at hk ⊢
 simp -implicitDefEqProofs only [go_sem,simprocAttr,hk]
def listE (t:Tbl) (l:List (List UInt8)) (m:Col→Int):Int:=evE (namesE t l m) 0 l.length
theorem c_columnNames (t:Tbl) (ht:FitT t) (l:List (List UInt8)) (hl:l.length≤1000000) (g:Nat) (hG:g=105∨g=109) (m:Col→Int) (hm:∀ c,R K (.call g [colA c] [])=some (I (m c),[])) :
  R K (.call 104 [tblA t,.rows (SLs l),.fn g []] [])=some (I (listE t l m),[]):=by
 have hi:=c_every (.fn 200 [.ptr 0 0,.ptr 1 0,.ptr 2 0]) (nsH t l g) (namesE t l m) l.length hl rfl (v_names t ht l hl g hG m hm)
 unfold listE
 simp only [nsH,tblC] at hi
 rw [call_104]
 simp -implicitDefEqProofs only [go_sem,simprocAttr,Tryz.f104,tblC,hi,List.length_map]
def keyM (c:Col):Int:=if c.nl=true then 9 else 0
theorem c_keyM (c:Col):R K (.call 105 [colA c] [])=some (I (keyM c),[]):=by
 rw [call_105]
 simp -implicitDefEqProofs only [go_sem,simprocAttr,Tryz.f105,colC]
 repeat' ((first | apply split_cond | apply split_yes | apply split_no)<;>intro hc<;>simp -implicitDefEqProofs only [hc,go_sem,simprocAttr,colC])
 all_goals simp_all [keyM]
theorem c_fine (c:Col):R K (.call 109 [colA c] [])=some (I 0,[]):=by
 rw [call_109]
 simp -implicitDefEqProofs only [go_sem,simprocAttr,Tryz.f109,colC]
theorem fgn_get {l:List Fgn} {j:Nat} {c:Fgn} (h:l[j]? = some c):at? (l.map fgnC) (j:Int)=some (fgnC c):=at_get (by simp [h])
theorem idx_get {l:List Idx} {j:Nat} {c:Idx} (h:l[j]? = some c):at? (l.map idxC) (j:Int)=some (idxC c):=at_get (by simp [h])
abbrev tiH (t:Tbl) (i:Nat):Heap:=[.cells (tblC t),.cells [I (i:Int)]]
theorem pred_id {i:Nat} (h:i+1≤1000000):wrapI .i64 (((i+1:Nat):Int) - 1)=(i:Int):=by rw [wrap_id (by omega) (by omega)];omega
theorem k_before4 (t:Tbl) (i:Nat) (f:Fgn) (hi:i+1≤1000000) (hf:t.fgn[i]? = some f):R K (.call 108 [.ptr 0 0,.ptr 1 0] (tiH t (i+1)))=some (.str f.nm,tiH t (i+1)):=by
 have h1:=pred_id hi
 have hg:=fgn_get hf
 simp only [fgnC] at hg
 rw [call_108]
 simp -implicitDefEqProofs only [go_sem,simprocAttr,Tryz.f108,tblC,fgnC,h1,hg]
 rfl
theorem k_before5 (t:Tbl) (i:Nat) (f:Idx) (hi:i+1≤1000000) (hf:t.idx[i]? = some f):R K (.call 112 [.ptr 0 0,.ptr 1 0] (tiH t (i+1)))=some (.str f.nm,tiH t (i+1)):=by
 have h1:=pred_id hi
 have hg:=idx_get hf
 simp only [idxC] at hg
 rw [call_112]
 simp -implicitDefEqProofs only [go_sem,simprocAttr,Tryz.f112,tblC,idxC,h1,hg]
 rfl
theorem v_before4 (t:Tbl) (i:Nat) (f:Fgn) (hi:i+1≤1000000) (hf:t.fgn[i]? = some f):callV nlA (R K) (tiH t (i+1)) [] (.fn 108 [.ptr 0 0,.ptr 1 0])=some (.str f.nm,tiH t (i+1)):=by
 have hk:=k_before4 t i f hi hf
 simp only [tiH,tblC] at hk ⊢
 simp -implicitDefEqProofs only [go_sem,simprocAttr,hk]
theorem v_before5 (t:Tbl) (i:Nat) (f:Idx) (hi:i+1≤1000000) (hf:t.idx[i]? = some f):callV nlA (R K) (tiH t (i+1)) [] (.fn 112 [.ptr 0 0,.ptr 1 0])=some (.str f.nm,tiH t (i+1)):=by
 have hk:=k_before5 t i f hi hf
 simp only [tiH,tblC] at hk ⊢
 simp -implicitDefEqProofs only [go_sem,simprocAttr,hk]
def befN (l:List (List UInt8)) (i:Nat):List UInt8:=(l[i - 1]?).getD []
def fgnE (t:Tbl) (i:Nat):Int:=match t.fgn[i]? with
 | some f=>orE (ordE f.nm (befN (t.fgn.map (·.nm)) i) (i==0)) (listE t f.cols fun _=>0)
 | none=>0
theorem c_ord4 (t:Tbl) (ht:FitT t) (i:Nat) (f:Fgn) (hf:t.fgn[i]? = some f):R K (.call 99 [.str f.nm,I (i:Int),.fn 108 [.ptr 0 0,.ptr 1 0]] (tiH t i))=some (I (ordE f.nm (befN (t.fgn.map (·.nm)) i) (i==0)),tiH t i):=by
 have hlt:=(List.getElem?_eq_some_iff.1 hf).1
 refine c_tallOrder _ _ _ _ _ (ht.fg f (List.mem_of_getElem? hf)).1 rfl fun hi=>?_
 obtain ⟨j,rfl⟩:∃ j,i=j+1:=⟨i - 1,by omega⟩
 obtain ⟨g,hg⟩:=some_at (l:=t.fgn) (i:=j) (by omega)
 have:=ht.fgn
 have e:befN (t.fgn.map (·.nm)) (j+1)=g.nm:=by simp [befN,hg]
 rw [e]
 exact v_before4 t j g (by omega) hg
theorem k_fgn (t:Tbl) (ht:FitT t) (i:Nat) (hi:i < t.fgn.length):R K (.call 107 [I (i:Int),.ptr 0 0] (tbH t))=some (I (fgnE t i),tbH t):=by
 obtain ⟨f,hf⟩:=some_at hi
 have hg:=fgn_get hf
 have hm:=List.mem_of_getElem? hf
 have h1:=c_ord4 t ht i f hf
 have h2:=c_columnNames t ht f.cols (ht.fg f hm).2 109 (.inr rfl) (fun _=>0) c_fine
 unfold fgnE
 rw [hf]
 simp only
 generalize ordE f.nm (befN (t.fgn.map (·.nm)) i) (i==0)=x at *
 generalize listE t f.cols (fun _=>0)=y at *
 simp only [tblA,tblC,fgnC,tiH] at h1 h2 hg
 by_cases hx:x=0
 ·subst hx
  rw [call_107]
  simp -implicitDefEqProofs only [go_sem,simprocAttr,Tryz.f107,tblC,fgnC,hg,h1,h2,bne]
  rfl
 ·have dx:(x==0)=false:=by simpa using hx
  rw [call_107]
  simp -implicitDefEqProofs only [go_sem,simprocAttr,Tryz.f107,tblC,fgnC,hg,h1,h2,bne,dx]
  simp [orE,hx,tblC]
def idxE (t:Tbl) (i:Nat):Int:=match t.idx[i]? with
 | some f=>orE (ordE f.nm (befN (t.idx.map (·.nm)) i) (i==0)) (if f.cols.length=0 then 3 else if 8 < f.cols.length then 2 else listE t f.cols fun _=>0)
 | none=>0
theorem c_ord5 (t:Tbl) (ht:FitT t) (i:Nat) (f:Idx) (hf:t.idx[i]? = some f):R K (.call 99 [.str f.nm,I (i:Int),.fn 112 [.ptr 0 0,.ptr 1 0]] (tiH t i))=some (I (ordE f.nm (befN (t.idx.map (·.nm)) i) (i==0)),tiH t i):=by
 have hlt:=(List.getElem?_eq_some_iff.1 hf).1
 refine c_tallOrder _ _ _ _ _ (ht.ix f (List.mem_of_getElem? hf)).1 rfl fun hi=>?_
 obtain ⟨j,rfl⟩:∃ j,i=j+1:=⟨i - 1,by omega⟩
 obtain ⟨g,hg⟩:=some_at (l:=t.idx) (i:=j) (by omega)
 have:=ht.idx
 have e:befN (t.idx.map (·.nm)) (j+1)=g.nm:=by simp [befN,hg]
 rw [e]
 exact v_before5 t j g (by omega) hg
theorem k_idx (t:Tbl) (ht:FitT t) (i:Nat) (hi:i < t.idx.length):R K (.call 111 [I (i:Int),.ptr 0 0] (tbH t))=some (I (idxE t i),tbH t):=by
 obtain ⟨f,hf⟩:=some_at hi
 have hg:=idx_get hf
 have hm:=List.mem_of_getElem? hf
 have h1:=c_ord5 t ht i f hf
 have h2:=c_columnNames t ht f.cols (ht.ix f hm).2 109 (.inr rfl) (fun _=>0) c_fine
 unfold idxE
 rw [hf]
 simp only
 generalize ordE f.nm (befN (t.idx.map (·.nm)) i) (i==0)=x at *
 generalize listE t f.cols (fun _=>0)=y at *
 simp only [tblA,tblC,idxC,tiH] at h1 h2 hg
 by_cases hx:x=0
 ·subst hx
  by_cases a:f.cols.length=0
  ·have d0:((f.cols.length:Int)==0)=true:=by simp [a]
   rw [call_111]
   simp -implicitDefEqProofs only [go_sem,simprocAttr,Tryz.f111,tblC,idxC,hg,h1,h2,bne,List.length_map,d0]
   simp [orE,a,tblC]
  ·have d0:((f.cols.length:Int)==0)=false:=by rw [←Bool.not_eq_true,beq_iff_eq];omega
   by_cases b:8 < f.cols.length
   ·have d8:((8:Int) < (f.cols.length:Int))=True:=eq_true (by omega)
    rw [call_111]
    simp -implicitDefEqProofs only [go_sem,simprocAttr,Tryz.f111,tblC,idxC,hg,h1,h2,bne,List.length_map,d0,d8]
    simp [orE,a,b,tblC]
   ·have d8:((8:Int) < (f.cols.length:Int))=False:=eq_false (by omega)
    rw [call_111]
    simp -implicitDefEqProofs only [go_sem,simprocAttr,Tryz.f111,tblC,idxC,hg,h1,h2,bne,List.length_map,d0,d8]
    simp [orE,a,b,tblC]
 ·have dx:(x==0)=false:=by simpa using hx
  rw [call_111]
  simp -implicitDefEqProofs only [go_sem,simprocAttr,Tryz.f111,tblC,idxC,hg,h1,h2,bne,dx]
  simp [orE,hx,tblC]
theorem l_first (h:Heap) (l:Nat) (w:Bool) (fs:List AV) (e:Nat→Int) (hn:fs.length≤1000000) (hl:h[l]? = some (.rows 1 (fs.map fun f=>[f]) w)) (hu:under h.length (locsH h)=true) (hc:∀ j f,(∀ k,k < j→e k=0)→fs[j]? = some f→callV nlA (R K) h [] f=some (I (e j),h)) (ks:List It) :
  ∀ (q j:Nat) (i:Int) (Bo:Code),Loop Tryz.f52 0 Bo→i=(j:Int)→fs.length=j+q→(∀ k,k < j→e k=0) →
  RL K (.run 52 h.length (.code Bo::.lp Bo (some ([6,7,8],[])) h.length::.blk 0 h.length::ks) [(6,.own l fs.length),(7,I (fs.length:Int)),(8,I i)] h) =
  if evE e j q=0 then R K (.run 52 h.length ks [] h) else some (I (evE e j q),h)
 | 0,j,i,Bo,hB,hi,hq,_=>by
  subst hi
  have d:¬(j:Int) < (fs.length:Int):=by omega
  unfold Loop at hB
  simp -implicitDefEqProofs only [go_sem,simprocAttr,Tryz.f52,loopOf] at hB
  subst hB
  rw [RL_eq]
  simp -implicitDefEqProofs only [go_sem,simprocAttr,d,evE]
 | q+1,j,i,Bo,hB,hi,hq,hz=>by
  subst hi
  have hB':=hB
  have d:(j:Int) < (fs.length:Int):=by omega
  have d0:((0:Int)≤(j:Int))=True:=eq_true (by omega)
  have h7:wrapI .i64 ((j:Int)+1)=((j+1:Nat):Int):=next_id (n:=fs.length) (by omega) (by omega)
  obtain ⟨f,hf⟩:=some_at (l:=fs) (i:=j) (by omega)
  have hx:=hc j f hz hf
  have hj:(fs.map fun f=>[f])[j]? = some [f]:=by simp [hf]
  have hA:=at_get hj
  by_cases hk:e j=0
  ·have e1:evE e j (q+1)=evE e (j+1) q:=by simp only [evE];rw [if_pos hk]
   have ih:=l_first h l w fs e hn hl hu hc ks q (j+1) _ Bo hB' rfl (by omega) fun k hk'=>by
    by_cases hkj:k=j
    ·rw [hkj];exact hk
    ·exact hz k (by omega)
   rw [e1]
   rw [hk] at hx
   unfold Loop at hB
   simp -implicitDefEqProofs only [go_sem,simprocAttr,Tryz.f52,loopOf] at hB
   subst hB
   rw [RL_eq]
   simp -implicitDefEqProofs only [go_sem,simprocAttr,d,d0,h7,hl,hj,hA,hx,bne,Int.toNat_natCast,List.length_map]
   rw [ih]
  ·have e1:evE e j (q+1)=e j:=by simp only [evE];rw [if_neg hk]
   have dk:(e j==0)=false:=by simpa using hk
   rw [e1,if_neg hk]
   unfold Loop at hB
   simp -implicitDefEqProofs only [go_sem,simprocAttr,Tryz.f52,loopOf] at hB
   subst hB
   rw [RL_eq]
   simp -implicitDefEqProofs only [go_sem,simprocAttr,d,d0,h7,hl,hj,hA,hx,dk,bne,hu,Int.toNat_natCast,List.length_map]
theorem c_first (h:Heap) (l:Nat) (w:Bool) (fs:List AV) (n:Nat) (e:Nat→Int) (hn:fs.length=n) (hb:n≤1000000) (hl:h[l]? = some (.rows 1 (fs.map fun f=>[f]) w)) (hu:under h.length (locsH h)=true) (hc:∀ j f,(∀ k,k < j→e k=0)→fs[j]? = some f→callV nlA (R K) h [] f=some (I (e j),h)) :
  R K (.call 52 [.own l n] h)=some (I (evE e 0 n),h):=by
 subst hn
 have lk:=fun ks B hB=>l_first h l w fs e hb hl hu hc ks fs.length 0 0 B hB rfl (by omega) (fun k hk=>absurd hk (by omega))
 rw [call_52]
 simp -implicitDefEqProofs only [go_sem,simprocAttr,Tryz.f52]
 rw [lk _ _ ?_]
 ·split
  ·rename_i h0
   rw [h0]
   simp -implicitDefEqProofs only [go_sem,simprocAttr,hu]
  ·rfl
 ·rfl
theorem k_70 (t:Tbl) (ht:FitT t):R K (.call 101 [.ptr 0 0] (tbH t))=some (I (columnsE t),tbH t):=by
 have hi:=c_columns t ht
 simp only [tblA,tblC] at hi
 rw [call_101]
 simp -implicitDefEqProofs only [go_sem,simprocAttr,Tryz.f101,tblC,hi]
 rfl
def keyE (t:Tbl):Int:=if t.key.length=0 then 3 else listE t t.key keyM
theorem k_72 (t:Tbl) (ht:FitT t):R K (.call 103 [.ptr 0 0] (tbH t))=some (I (keyE t),tbH t):=by
 have hi:=c_columnNames t ht t.key ht.key 105 (.inl rfl) keyM c_keyM
 simp only [tblA,tblC] at hi
 unfold keyE
 by_cases a:t.key.length=0
 ·have d0:((t.key.length:Int)==0)=true:=by simp [a]
  rw [call_103]
  simp -implicitDefEqProofs only [go_sem,simprocAttr,Tryz.f103,tblC,hi,d0,List.length_map]
  simp [a,tblC]
 ·have d0:((t.key.length:Int)==0)=false:=by rw [←Bool.not_eq_true,beq_iff_eq];omega
  rw [call_103]
  simp -implicitDefEqProofs only [go_sem,simprocAttr,Tryz.f103,tblC,hi,d0,List.length_map]
  simp [a,tblC]
theorem v_fgn (t:Tbl) (ht:FitT t):Tells (tbH t) (.fn 107 [.ptr 0 0]) (fgnE t) t.fgn.length:=fun i hi=>by
 have hk:=k_fgn t ht i hi
 simp only [tbH,tblC] at hk ⊢
 simp -implicitDefEqProofs only [go_sem,simprocAttr,hk]
theorem v_idx (t:Tbl) (ht:FitT t):Tells (tbH t) (.fn 111 [.ptr 0 0]) (idxE t) t.idx.length:=fun i hi=>by
 have hk:=k_idx t ht i hi
 simp only [tbH,tblC] at hk ⊢
 simp -implicitDefEqProofs only [go_sem,simprocAttr,hk]
theorem k_75 (t:Tbl) (ht:FitT t):R K (.call 106 [.ptr 0 0] (tbH t))=some (I (evE (fgnE t) 0 t.fgn.length),tbH t):=by
 have hi:=c_every _ (tbH t) (fgnE t) t.fgn.length ht.fgn (tbH_fits t) (v_fgn t ht)
 simp only [tbH,tblC] at hi
 rw [call_106]
 simp -implicitDefEqProofs only [go_sem,simprocAttr,Tryz.f106,tblC,hi,List.length_map]
 rfl
theorem k_79 (t:Tbl) (ht:FitT t):R K (.call 110 [.ptr 0 0] (tbH t))=some (I (evE (idxE t) 0 t.idx.length),tbH t):=by
 have hi:=c_every _ (tbH t) (idxE t) t.idx.length ht.idx (tbH_fits t) (v_idx t ht)
 simp only [tbH,tblC] at hi
 rw [call_110]
 simp -implicitDefEqProofs only [go_sem,simprocAttr,Tryz.f110,tblC,hi,List.length_map]
 rfl
abbrev foH (t:Tbl) (w:Bool):Heap:=[.rows 1 [[.fn 101 [.ptr 1 0]],[.fn 103 [.ptr 1 0]],[.fn 106 [.ptr 1 0]],[.fn 110 [.ptr 1 0]]] w,.cells (tblC t)]
def partE (t:Tbl):Nat→Int
 | 0=>columnsE t
 | 1=>keyE t
 | 2=>evE (fgnE t) 0 t.fgn.length
 | 3=>evE (idxE t) 0 t.idx.length
 | _=>0
theorem c_parts (t:Tbl) (ht:FitT t) (w:Bool):R K (.call 52 [.own 0 4] (foH t w))=some (I (evE (partE t) 0 4),foH t w):=by
 refine c_first (foH t w) 0 w [.fn 101 [.ptr 1 0],.fn 103 [.ptr 1 0],.fn 106 [.ptr 1 0],.fn 110 [.ptr 1 0]] 4 (partE t) rfl (by omega) rfl rfl ?_
 intro j f _ hf
 have h0:=k_70 t ht
 have h1:=k_72 t ht
 have h2:=k_75 t ht
 have h3:=k_79 t ht
 simp only [tbH,tblC] at h0 h1 h2 h3
 match j,hf with
 | 0,hf =>
  simp only [List.getElem?_cons_zero,Option.some.injEq] at hf
  subst hf
  simp only [foH,tblC,partE]
  simp -implicitDefEqProofs only [go_sem,simprocAttr,h0]
 | 1,hf =>
  simp only [List.getElem?_cons_succ,List.getElem?_cons_zero,Option.some.injEq] at hf
  subst hf
  simp only [foH,tblC,partE]
  simp -implicitDefEqProofs only [go_sem,simprocAttr,h1]
 | 2,hf =>
  simp only [List.getElem?_cons_succ,List.getElem?_cons_zero,Option.some.injEq] at hf
  subst hf
  simp only [foH,tblC,partE]
  simp -implicitDefEqProofs only [go_sem,simprocAttr,h2]
 | 3,hf =>
  simp only [List.getElem?_cons_succ,List.getElem?_cons_zero,Option.some.injEq] at hf
  subst hf
  simp only [foH,tblC,partE]
  simp -implicitDefEqProofs only [go_sem,simprocAttr,h3]
 | j+4,hf=>simp at hf
abbrev siH (x:List Tbl) (i:Nat):Heap:=[.cells [.rows (x.map tblC)],.cells [I (i:Int)]]
theorem k_before1 (x:List Tbl) (i:Nat) (t:Tbl) (hi:i+1≤1000000) (hf:x[i]? = some t):R K (.call 100 [.ptr 0 0,.ptr 1 0] (siH x (i+1)))=some (.str t.nm,siH x (i+1)):=by
 have h1:=pred_id hi
 have hg:=tbl_get hf
 simp only [tblC] at hg
 rw [call_100]
 simp -implicitDefEqProofs only [go_sem,simprocAttr,Tryz.f100,h1,hg]
theorem v_before1 (x:List Tbl) (i:Nat) (t:Tbl) (hi:i+1≤1000000) (hf:x[i]? = some t):callV nlA (R K) (siH x (i+1)) [] (.fn 100 [.ptr 0 0,.ptr 1 0])=some (.str t.nm,siH x (i+1)):=by
 have hk:=k_before1 x i t hi hf
 simp only [siH] at hk ⊢
 simp -implicitDefEqProofs only [go_sem,simprocAttr,hk]
theorem c_ord1 (x:List Tbl) (hx:x.length≤1000000) (i:Nat) (t:Tbl) (ht:FitT t) (hf:x[i]? = some t):R K (.call 99 [.str t.nm,I (i:Int),.fn 100 [.ptr 0 0,.ptr 1 0]] (siH x i))=some (I (ordE t.nm (befN (x.map (·.nm)) i) (i==0)),siH x i):=by
 have hlt:=(List.getElem?_eq_some_iff.1 hf).1
 refine c_tallOrder _ _ _ _ _ ht.nm rfl fun hi=>?_
 obtain ⟨j,rfl⟩:∃ j,i=j+1:=⟨i - 1,by omega⟩
 obtain ⟨g,hg⟩:=some_at (l:=x) (i:=j) (by omega)
 have e:befN (x.map (·.nm)) (j+1)=g.nm:=by simp [befN,hg]
 rw [e]
 exact v_before1 x j g (by omega) hg
def bigT (t:Tbl):Bool:=decide (60 < t.cols.length)||(decide (8 < t.key.length)||(decide (20 < t.fgn.length)||decide (20 < t.idx.length)))
def tableE (x:List Tbl) (i:Nat):Int:=match x[i]? with
 | some t=>orE (ordE t.nm (befN (x.map (·.nm)) i) (i==0)) (if bigT t=true then 2 else evE (partE t) 0 4)
 | none=>0
end Go.Ab
