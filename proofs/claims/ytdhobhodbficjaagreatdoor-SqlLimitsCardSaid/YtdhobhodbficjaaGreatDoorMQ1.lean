/- What is proved: contracts of the program's and the reference's functions in the evaluator, and plain laws on them. Conditions: as each states. -/
import Derived.Test.YtdhobhodbficjaaGreatDoorMC
import Derived.IntWalk
import Derived.KernelRfl
set_option linter.unusedSimpArgs false
set_option linter.unusedSectionVars false
set_option linter.unusedVariables false
set_option maxRecDepth 100000
namespace Go.Ab
open Go Go.Proofs
structure Val where
 k:Int
 n:Int
 s:List UInt8
 deriving DecidableEq
@[go_sem] def enc (v:Val):AV:=.agg [.int .i64 v.k,.int .i64 v.n,.str v.s]
@[go_sem] theorem Val.eta (v:Val):Val.mk v.k v.n v.s=v:=rfl
def loopOf:Code→Nat→Option Code
 | .seq a b,i=>match loopOf a i with
  | some c=>some c
  | none=>loopOf b i
 | .cond _ a b,i=>match loopOf a i with
  | some c=>some c
  | none=>loopOf b i
 | .block j c,i=>if j=i then (match c with
  | .loop b=>some b
  | _=>none) else loopOf c i
 | .loop c,i=>loopOf c i
 | _,_=>none
def Loop (f:Func) (i:Nat) (B:Code):Prop:=loopOf (f.body.getD .skip) i=some B
@[go_sem] theorem wrap_id {n:Int} (h1:-9223372036854775808≤n) (h2:n≤9223372036854775807):wrapI .i64 n=n:=by
 exact IntWalk.i64_in _ ⟨h1,h2⟩
theorem at_get {α:Type} {l:List α} {i:Nat} {x:α} (h:l[i]? = some x):at? l (i:Int)=some x:=by
 simp [at?,h]
theorem byte_get {s:List UInt8} {i:Nat} {b:UInt8} (h:s[i]? = some b):at? s (i:Int)=some b:=at_get h
attribute [go_sem] callIn conv convL reach posOf sub renB renL ren back afterIn outer List.contains_cons List.contains_nil List.map_cons List.map_nil List.take_length ite_self
abbrev I (n:Int):AV:=.int .i64 n
@[go_sem] theorem at_hd {α:Type} {a:α} {l:List α}:at? (a::l) 0=some a:=rfl
@[go_sem] theorem at_sn {α:Type} {a b:α} {l:List α}:at? (a::b::l) 1=some b:=rfl
theorem next_id {i n:Nat} (h:i < n) (hn:n≤9223372036854775807):wrapI .i64 ((i:Int)+1)=((i+1:Nat):Int):=by rw [wrap_id (by omega) (by omega)];rfl
theorem some_at {α:Type} {l:List α} {i:Nat} (h:i < l.length):∃ x,l[i]? = some x:=⟨l[i],List.getElem?_eq_getElem h⟩
theorem tm (a b:Int) (h:0≤a):a.tmod b=a % b:=Int.tmod_eq_emod_of_nonneg h
theorem td (a b:Int) (h:0≤a):a.tdiv b=a / b:=Int.tdiv_eq_ediv_of_nonneg h
def belowS (x n:Int):Int:=if n < 1 then 0 else if x.tmod n < 0 then wrapI .i64 (x.tmod n+n) else x.tmod n
theorem r_Below (x n:Int):R K (.call 15 [.int .i64 x,.int .i64 n] [])=some (.int .i64 (belowS x n),[]):=by
 by_cases hn:n < 1
 ·have h1:decide (n < 1)=true:=by simp [hn]
  rw [call_15]
  simp -implicitDefEqProofs only [go_sem,simprocAttr,Tryz.f15,h1]
  repeat' ((first | apply split_cond | apply split_yes | apply split_no)<;>intro hc<;>simp -implicitDefEqProofs only [hc,go_sem,simprocAttr,h1])
  simp [belowS,hn]
 ·have h1:decide (n < 1)=false:=by simpa using hn
  have h2:n≠0:=by omega
  have e:belowS x n=if x.tmod n < 0 then wrapI .i64 (x.tmod n+n) else x.tmod n:=if_neg hn
  rw [e]
  rw [call_15]
  simp -implicitDefEqProofs only [go_sem,simprocAttr,Tryz.f15,h1,h2]
  repeat' ((first | apply split_cond | apply split_yes | apply split_no)<;>intro hc<;>simp -implicitDefEqProofs only [hc,go_sem,simprocAttr,h1,h2])
  all_goals simp_all
  intro;omega
theorem below_bounds (x n:Int) (h1:1≤n) (h2:n≤4611686018427387904):0≤belowS x n∧belowS x n < n:=by
 unfold belowS
 rw [if_neg (by omega)]
 have a:=Int.tmod_lt_of_pos x (show 0 < n by omega)
 have b:-n < x.tmod n:=by
  have:=Int.tmod_lt_of_pos (-x) (show 0 < n by omega)
  rw [Int.neg_tmod] at this
  omega
 split
 ·rw [wrap_id (by omega) (by omega)];omega
 ·omega
def nextS (L:List Int) (a n:Int):Int :=
 if L.length=0 then belowS (wrapI .i64 ((a+1)*7919)) n
 else belowS (wrapI .i64 (belowS (L.getD (a % L.length).toNat 0) 1073741824+wrapI .i64 (a / L.length*(7919+a % L.length)))) n
abbrev LR (L:List Int):AV:=.rows (L.map fun x=>[.int .i64 x])
theorem r_Next (L:List Int) (a n:Int) (ha:0≤a) (ha2:a≤4611686018427387904) (hL:L.length≤9223372036854775807):R K (.call 5 [.ptr 0 0,.int .i64 n] [.cells [LR L,.int .i64 a]])=some (.int .i64 (nextS L a n),[.cells [LR L,.int .i64 (a+1)]]):=by
 have e1:wrapI .i64 (a+1)=a+1:=wrap_id (by omega) (by omega)
 have e2:wrapI .i64 (a+1 - 1)=a:=by rw [wrap_id (by omega) (by omega)];omega
 have el:(L.map fun x=>[AV.int .i64 x]).length=L.length:=List.length_map _
 by_cases h:L.length=0
 ·have h0:decide (((L.length:Nat):Int)=0)=true:=by simp [h]
  have hb:(((L.length:Nat):Int)==0)=true:=by simp [h]
  have e:nextS L a n=belowS (wrapI .i64 ((a+1)*7919)) n:=if_pos h
  rw [e]
  rw [call_5]
  simp -implicitDefEqProofs only [go_sem,simprocAttr,Tryz.f5,e1,hb,el,r_Below]
  repeat' ((first | apply split_cond | apply split_yes | apply split_no)<;>intro hc<;>simp -implicitDefEqProofs only [hc,go_sem,simprocAttr,e1,hb,el,r_Below])
 ·have hb:(((L.length:Nat):Int)==0)=false:=by simpa using h
  have hl1:(1:Int)≤L.length:=by omega
  have e3:a.tmod (L.length:Int)=a % L.length:=tm _ _ ha
  have e4:wrapI .i64 (a.tdiv (L.length:Int))=a / L.length:=by
   rw [td _ _ ha]
   have:=Int.ediv_le_self (L.length:Int) ha
   have:=Int.ediv_nonneg ha (show (0:Int)≤L.length by omega)
   exact wrap_id (by omega) (by omega)
  have m1:=Int.emod_nonneg a (show (L.length:Int)≠0 by omega)
  have m2:=Int.emod_lt_of_pos a (show (0:Int) < L.length by omega)
  have m3:a % (L.length:Int)≤a:=by
   rw [Int.emod_def]
   exact Int.sub_le_self a (Int.mul_nonneg (by omega) (Int.ediv_nonneg ha (by omega)))
  obtain ⟨x,hx⟩:=some_at (l:=L) (i:=(a % L.length).toNat) (by omega)
  have e5:at? (L.map fun x=>[AV.int .i64 x]) (a % L.length)=some [.int .i64 x]:=by
   unfold at?
   rw [if_pos m1]
   simp [hx]
  have e6:wrapI .i64 (7919+a % L.length)=7919+a % L.length:=wrap_id (by omega) (by omega)
  have hd:L.getD (a % L.length).toNat 0=x:=by simp [List.getD,hx]
  have hne:((L.length:Nat):Int)≠0:=by omega
  have e:nextS L a n=belowS (wrapI .i64 (belowS x 1073741824+wrapI .i64 (a / L.length*(7919+a % L.length)))) n:=by
   unfold nextS
   rw [if_neg h,hd]
  rw [e]
  rw [call_5]
  simp -implicitDefEqProofs only [go_sem,simprocAttr,Tryz.f5,e1,e2,e3,e4,e5,e6,hb,hne,h,el,r_Below]
  repeat' ((first | apply split_cond | apply split_yes | apply split_no)<;>intro hc<;>simp -implicitDefEqProofs only [hc,go_sem,simprocAttr,e1,e2,e3,e4,e5,e6,hb,hne,h,el,r_Below])
theorem next_bounds (L:List Int) (a n:Int) (h1:1≤n) (h2:n≤4611686018427387904):0≤nextS L a n∧nextS L a n < n:=by
 unfold nextS
 split<;>exact below_bounds _ _ h1 h2
theorem p_Repeat (s:List UInt8) (c:Nat) (h:c≤1000) (hs:s.length≤1000):R K (.call 8 [.str s,I (c:Int)] [])=some (.str (Lib.repeatL s c),[]) :=
 R_prim (by
  show pRepeat [.str s,I (c:Int)]=_
  simp only [pRepeat]
  have:s.length*c≤1000*1000:=Nat.mul_le_mul hs h
  rw [if_pos (by simp only [Bool.and_eq_true,decide_eq_true_eq,Int.toNat_natCast];omega),Int.toNat_natCast])
abbrev St (L:List Int) (a:Int):Heap:=[.cells [LR L,I a]]
structure Gd (L:List Int) (a B:Int):Prop where
 pos:0≤a
 top:a+B≤4611686018427387904
 len:L.length≤9223372036854775807
theorem Gd.step {L:List Int} {a B:Int} (h:Gd L a B) (a' B':Int) (h1:a≤a') (h2:a'+B'≤a+B):Gd L a' B':=⟨by have:=h.pos;omega,by have:=h.top;omega,h.len⟩
def Out (t:Tk) (L:List Int) (a B:Int) (P:AV→Prop):Prop:=∃ r a',R K t=some (r,St L a')∧a≤a'∧a'≤a+B∧P r
theorem Out.mk {t:Tk} {L:List Int} {a B:Int} {P:AV→Prop} (r:AV) (a':Int) (h1:a≤a') (h2:a'≤a+B) (h3:P r) (e:R K t=some (r,St L a')):Out t L a B P:=⟨r,a',e,h1,h2,h3⟩
section
variable {L:List Int} {a B:Int}
theorem g_Next (h:Gd L a B) (hB:1≤B) (n:Int):R K (.call 5 [.ptr 0 0,I n] (St L a))=some (I (nextS L a n),St L (a+1)):=by
 have h1:=h.pos
 have h2:=h.top
 exact r_Next L a n h1 (by omega) h.len
theorem int_at {l:List Int} {i:Int} (h:0≤i∧i < (l.length:Int)):∃ x∈l,at? (l.map fun x=>[I x]) i=some [I x]:=by
 obtain ⟨x,hx⟩:=some_at (l:=l) (i:=i.toNat) (by omega)
 refine ⟨x,List.mem_of_getElem? hx,?_⟩
 unfold at?
 rw [if_pos h.1]
 simp [hx]
theorem g_Pick (h:Gd L a B) (hB:1≤B) (l:List Int) (hl:1≤l.length) (hl2:l.length≤1000):∃ x∈l,R K (.call 6 [.ptr 0 0,.rows (l.map fun x=>[I x])] (St L a))=some (I x,St L (a+1)):=by
 have x0:=g_Next h hB (l.length:Int)
 have b0:=next_bounds L a (l.length:Int) (by omega) (by omega)
 obtain ⟨x,hx,hg⟩:=int_at (l:=l) b0
 refine ⟨x,hx,?_⟩
 rw [call_6]
 simp -implicitDefEqProofs only [go_sem,simprocAttr,Tryz.f6,x0,hg]
 repeat' ((first | apply split_cond | apply split_yes | apply split_no)<;>intro hc<;>simp -implicitDefEqProofs only [hc,go_sem,simprocAttr,x0,hg])
end
attribute [go_sem] ownedB
@[go_sem] theorem locsR_bytes:∀ s:List UInt8,locsR (byteRows s)=[]
 | []=>rfl
 | b::r=>by simp only [byteRows,locsR,locsL,locs,locsR_bytes r,List.append_nil]
@[go_sem] theorem renR_bytes (σ:Nat→Nat):∀ s:List UInt8,renR σ (byteRows s)=byteRows s
 | []=>rfl
 | b::r=>by simp only [byteRows,renR,renL,ren,renR_bytes σ r]
abbrev BH (p:AV) (s:List UInt8):Heap:=[.cells [p,.town 5 1 (s.length:Nat)],.rows 1 (byteRows s) false]
theorem b_check (p x:AV) (r:Heap) (hp:p=.nilp∨p=.ptr 0 0):R K (.call 29 [.tptr 67 0 0] (.cells [p,x]::r))=some (.tup [],.cells [.ptr 0 0,x]::r):=by
 rcases hp with rfl | rfl
 ·exact R_primH rfl rfl
 ·exact R_primH rfl rfl
theorem bR_app (s w:List UInt8):byteRows s++byteRows w=byteRows (s++w):=by
 induction s with
 | nil=>rfl
 | cons b s ih=>simp only [List.cons_append,byteRows,ih]
theorem b_string (p:AV) (s w:List UInt8) (hp:p=.nilp∨p=.ptr 0 0) (h:s.length+w.length≤40000000):R K (.call 19 [.tptr 67 0 0,.str w] (BH p s))=some (.tup [I (w.length:Int),.nili],BH (.ptr 0 0) (s++w)):=by
 have hc:=b_check p (.town 5 1 (s.length:Nat)) [.rows 1 (byteRows s) false] hp
 have he:((s.length+w.length)*2≤roomMax)=True:=eq_true (by unfold roomMax;omega)
 rcases hp with rfl | rfl
 ·rw [call_19]
  simp -implicitDefEqProofs only [go_sem,simprocAttr,Tryz.f19,BH,hc,byteRows_length,he,bR_app]
  repeat' ((first | apply split_cond | apply split_yes | apply split_no)<;>intro hc<;>simp -implicitDefEqProofs only [hc,go_sem,simprocAttr,BH,hc,byteRows_length,he,bR_app])
 ·rw [call_19]
  simp -implicitDefEqProofs only [go_sem,simprocAttr,Tryz.f19,BH,hc,byteRows_length,he,bR_app]
  repeat' ((first | apply split_cond | apply split_yes | apply split_no)<;>intro hc<;>simp -implicitDefEqProofs only [hc,go_sem,simprocAttr,BH,hc,byteRows_length,he,bR_app])
theorem p_Itoa (n:Int) (h0:-9223372036854775808≤n) (h1:n≤9223372036854775807):R K (.call 293 [I n] [])=some (.str (Lib.itoa n),[]) :=
 R_prim (by show pItoa [I n]=_;simp only [pItoa];rw [if_pos (by simp [fits,h0,h1])])
theorem it_0:R K (.call 293 [I 0] [])=some (.str [48],[]):=(p_Itoa 0 (by omega) (by omega)).trans (by rw [show Lib.itoa 0=[48] by decide +kernel])
theorem it_1:R K (.call 293 [I 1] [])=some (.str [49],[]):=(p_Itoa 1 (by omega) (by omega)).trans (by rw [show Lib.itoa 1=[49] by decide +kernel])
theorem it_2:R K (.call 293 [I 2] [])=some (.str [50],[]):=(p_Itoa 2 (by omega) (by omega)).trans (by rw [show Lib.itoa 2=[50] by decide +kernel])
theorem it_4:R K (.call 293 [I 4] [])=some (.str [52],[]):=(p_Itoa 4 (by omega) (by omega)).trans (by rw [show Lib.itoa 4=[52] by decide +kernel])
theorem it_6:R K (.call 293 [I 6] [])=some (.str [54],[]):=(p_Itoa 6 (by omega) (by omega)).trans (by rw [show Lib.itoa 6=[54] by decide +kernel])
theorem it_17:R K (.call 293 [I 17] [])=some (.str [49,55],[]):=(p_Itoa 17 (by omega) (by omega)).trans (by rw [show Lib.itoa 17=[49,55] by decide +kernel])
theorem p_false:R K (.call 294 [.bool false] [])=some (.str [102,97,108,115,101],[]):=R_prim rfl
theorem p_quote:R K (.call 295 [.str []] [])=some (.str [34,34],[]):=R_prim rfl
abbrev nd (k op vk vn:Int) (args:List (List AV)):List AV:=[I k,I op,I 0,I vk,I vn,.str [],.str [],.str [],.bool false,.rows args,.rows [],.rows [],.rows []]
structure Fl (c:List AV):Prop where
 len:c.length=13
 locs:locsL c=[]
 one:singles c=true
 conv:∀ h:Heap,convL h c=some c
 ren:∀ σ:Nat→Nat,renL σ c=c
 pure:∀ h:Heap,purifyL h c=some c
theorem nd_fl (k op vk vn:Int) (args:List (List AV)):Fl (nd k op vk vn args):=⟨rfl,rfl,rfl,fun _=>rfl,fun _=>rfl,fun _=>rfl⟩
def Wr (c:List AV) (B:Nat):Prop:=Fl c∧∃ t:List UInt8,(t.length≤B∧0 < t.length)∧∀ (p:AV) (s:List UInt8),(p=.nilp∨p=.ptr 0 0)→s.length+B≤39000000 →
 R K (.call 195 [.tptr 67 0 0,.agg c] (BH p s))=some (.tup [],BH (.ptr 0 0) (s++t))
theorem l_key (args:List (List AV)) (hl:args.length≤1000000) (b:Nat) (ih:∀ a∈args,Wr a b):∀ (m j:Nat),args.length=j+m→∃ t:List UInt8,t.length≤m*b∧∀ (A:List (List AV)) (i0:Int) (H0:List AV) (ks:List It) (Bo:Code) (i:Int) (s:List UInt8),locsL H0=[]→Loop Tryz.f195 2 Bo→i=(j:Int)→s.length+m*b≤39000000 →
  RL K (.run 195 2 (.code Bo::.lp Bo (some ([0,3,64,65,66,76,77,78],[])) 3::.blk 2 3::ks) [(0,.tptr 67 0 0),(3,.ptr 2 0),(64,.lit A),(65,I 2),(66,I i0),(76,.rows args),(77,I (args.length:Int)),(78,I i)] [.cells [.ptr 0 0,.town 5 1 s.length],.rows 1 (byteRows s) false,.cells H0]) =
  R K (.run 195 2 ks [(0,.tptr 67 0 0),(3,.ptr 2 0),(64,.lit A),(65,I 2),(66,I i0)] [.cells [.ptr 0 0,.town 5 1 (s++t).length],.rows 1 (byteRows (s++t)) false,.cells H0])
 | 0,j,hj=>by
  have h1:decide ((j:Int) < (args.length:Int))=false:=decide_eq_false (by omega)
  refine ⟨[],Nat.zero_le _,fun A i0 H0 ks Bo i s hH hB hi hs=>?_⟩
  subst hi
  rw [List.append_nil]
  unfold Loop at hB
  simp -implicitDefEqProofs only [go_sem,simprocAttr,Tryz.f195,loopOf] at hB
  subst hB
  rw [RL_eq]
  simp -implicitDefEqProofs only [go_sem,simprocAttr,h1,hH]
  repeat' ((first | apply split_cond | apply split_yes | apply split_no)<;>intro hc<;>simp -implicitDefEqProofs only [hc,go_sem,simprocAttr,h1,hH])
 | m+1,j,hj=>by
  have h1:decide ((j:Int) < (args.length:Int))=true:=decide_eq_true (by omega)
  have h7:=next_id (i:=j) (n:=args.length) (by omega) (by omega)
  obtain ⟨x,hx⟩:=some_at (l:=args) (i:=j) (by omega)
  have hg:=at_get hx
  obtain ⟨fl,t1,⟨x3,_⟩,x4⟩:=ih x (List.mem_of_getElem? hx)
  have x1:=fl.len
  obtain ⟨t2,y1,y2⟩:=l_key args hl b ih m (j+1) (by omega)
  have hb:(m+1)*b=m*b+b:=Nat.succ_mul m b
  refine ⟨t1++t2,by rw [List.length_append];omega,fun A i0 H0 ks Bo i s hH hB hi hs=>?_⟩
  have hB':=hB
  subst hi
  have r:=x4 (.ptr 0 0) s (.inr rfl) (by omega)
  have z:=y2 A i0 H0 ks Bo _ (s++t1) hH hB' rfl (by rw [List.length_append];omega)
  rw [List.append_assoc] at z
  have xt:x.take 13=x:=by rw [←x1];exact List.take_length
  obtain ⟨s2,hs2⟩:∃ s2,s2=s++t1:=⟨_,rfl⟩
  obtain ⟨s3,hs3⟩:∃ s3,s3=s++(t1++t2):=⟨_,rfl⟩
  rw [←hs2] at r z
  rw [←hs3] at z ⊢
  simp only [BH] at r
  unfold Loop at hB
  simp -implicitDefEqProofs only [go_sem,simprocAttr,Tryz.f195,loopOf] at hB
  subst hB
  rw [RL_eq]
  simp -implicitDefEqProofs only [go_sem,simprocAttr,h1,hH,h7,hg,x1,fl.locs,fl.one,fl.conv,fl.ren,xt,r]
  repeat' ((first | apply split_cond | apply split_yes | apply split_no)<;>intro hc<;>simp -implicitDefEqProofs only [hc,go_sem,simprocAttr,h1,hH,h7,hg,x1,fl.locs,fl.one,fl.conv,fl.ren,xt,r])
  rw [z]
theorem c_order (s:List UInt8) (h:s.length≤39999000):R K (.call 296 [.tptr 67 0 0,.rows []] (BH (.ptr 0 0) s))=some (.tup [],BH (.ptr 0 0) (s++[59,111])):=by
 have w:=b_string (.ptr 0 0) s [59,111] (.inr rfl) (by simp only [List.length_cons,List.length_nil];omega)
 obtain ⟨s2,hs2⟩:∃ s2,s2=s++[59,111]:=⟨_,rfl⟩
 rw [←hs2] at w ⊢
 simp only [BH] at w
 rw [call_296]
 simp -implicitDefEqProofs only [go_sem,simprocAttr,Tryz.f296,BH,w]
 repeat' ((first | apply split_cond | apply split_yes | apply split_no)<;>intro hc<;>simp -implicitDefEqProofs only [hc,go_sem,simprocAttr,BH,w])
 rw [RL_eq]
 simp -implicitDefEqProofs only [go_sem,simprocAttr]
 repeat' ((first | apply split_cond | apply split_yes | apply split_no)<;>intro hc<;>simp -implicitDefEqProofs only [hc,go_sem,simprocAttr])
theorem w_leaf (args:List (List AV)) (hl:args.length≤1000000) (b:Nat) (ih:∀ a∈args,Wr a b):Wr (nd 1 0 2 1 args) (60+args.length*b):=by
 obtain ⟨t1,y1,y2⟩:=l_key args hl b ih args.length 0 (by omega)
 obtain ⟨t2,z1,z2⟩:=l_key [] (by simp) b (by simp) 0 0 rfl
 have ht2:t2=[]:=List.length_eq_zero_iff.1 (by simpa using z1)
 subst ht2
 refine ⟨nd_fl _ _ _ _ _,[91,49,44,48,44,48,44,102,97,108,115,101,44]++([50,44,49,44,34,34,44,34,34,44,34,34]++([59,48]++(t1++([59,49]++([59,111]++[93]))))),⟨?_,?_⟩,fun p s hp hs=>?_⟩
 ·simp only [List.length_append,List.length_cons,List.length_nil];omega
 ·simp only [List.length_append,List.length_cons,List.length_nil];omega
 have w1:=b_string p s [91,49,44,48,44,48,44,102,97,108,115,101,44] hp (by simp only [List.length_cons,List.length_nil];omega)
 obtain ⟨s1,hs1⟩:∃ s1,s1=s++[91,49,44,48,44,48,44,102,97,108,115,101,44]:=⟨_,rfl⟩
 have q1:s1.length=s.length+13:=by rw [hs1];simp
 rw [←hs1] at w1
 have w2:=b_string (.ptr 0 0) s1 [50,44,49,44,34,34,44,34,34,44,34,34] (.inr rfl) (by simp only [List.length_cons,List.length_nil];omega)
 obtain ⟨s2,hs2⟩:∃ s2,s2=s1++[50,44,49,44,34,34,44,34,34,44,34,34]:=⟨_,rfl⟩
 have q2:s2.length=s1.length+12:=by rw [hs2];simp
 rw [←hs2] at w2
 have w3:=b_string (.ptr 0 0) s2 [59,48] (.inr rfl) (by simp only [List.length_cons,List.length_nil];omega)
 obtain ⟨s3,hs3⟩:∃ s3,s3=s2++[59,48]:=⟨_,rfl⟩
 have q3:s3.length=s2.length+2:=by rw [hs3];simp
 rw [←hs3] at w3
 have y3:=fun A i0 H0 ks Bo hH hB=>y2 A i0 H0 ks Bo 0 s3 hH hB rfl (by omega)
 obtain ⟨s4,hs4⟩:∃ s4,s4=s3++t1:=⟨_,rfl⟩
 have q4:s4.length=s3.length+t1.length:=by rw [hs4,List.length_append]
 rw [←hs4] at y3
 have w5:=b_string (.ptr 0 0) s4 [59,49] (.inr rfl) (by simp only [List.length_cons,List.length_nil];omega)
 obtain ⟨s5,hs5⟩:∃ s5,s5=s4++[59,49]:=⟨_,rfl⟩
 have q5:s5.length=s4.length+2:=by rw [hs5];simp
 rw [←hs5] at w5
 have z3:=fun A i0 H0 ks Bo hH hB=>z2 A i0 H0 ks Bo 0 s5 hH hB rfl (by omega)
 rw [List.append_nil] at z3
 simp only [List.length_nil,show ((0:Nat):Int)=0 from rfl] at z3
 have w7:=c_order s5 (by omega)
 obtain ⟨s7,hs7⟩:∃ s7,s7=s5++[59,111]:=⟨_,rfl⟩
 have q7:s7.length=s5.length+2:=by rw [hs7];simp
 rw [←hs7] at w7
 have w8:=b_string (.ptr 0 0) s7 [93] (.inr rfl) (by simp only [List.length_cons,List.length_nil];omega)
 obtain ⟨s8,hs8⟩:∃ s8,s8=s7++[93]:=⟨_,rfl⟩
 rw [←hs8] at w8
 have e8:s++([91,49,44,48,44,48,44,102,97,108,115,101,44]++([50,44,49,44,34,34,44,34,34,44,34,34]++([59,48]++(t1++([59,49]++([59,111]++[93]))))))=s8:=by
  rw [hs8,hs7,hs5,hs4,hs3,hs2,hs1]
  simp only [List.append_assoc]
 rw [e8]
 simp only [BH,List.length_cons,List.length_nil] at w1 w2 w3 w5 w7 w8 y3 z3
 rcases hp with rfl | rfl
 all_goals
  rw [call_195]
  simp -implicitDefEqProofs only [go_sem,simprocAttr,Tryz.f195,BH,strMax,it_0,it_1,it_2,it_4,it_6,it_17,p_false,p_quote,w1,w2]
  repeat' ((first | apply split_cond | apply split_yes | apply split_no)<;>intro hc<;>simp -implicitDefEqProofs only [hc,go_sem,simprocAttr,BH,strMax,it_0,it_1,it_2,it_4,it_6,it_17,p_false,p_quote,w1,w2])
  rw [RL_eq]
  simp -implicitDefEqProofs only [go_sem,simprocAttr,strMax,it_0,it_1,w3]
  repeat' ((first | apply split_cond | apply split_yes | apply split_no)<;>intro hc<;>simp -implicitDefEqProofs only [hc,go_sem,simprocAttr,strMax,it_0,it_1,w3])
  rw [y3 _ _ _ _ _ (by simp only [locsL,locs,List.append_nil]) (by rfl)]
  simp -implicitDefEqProofs only [go_sem,simprocAttr]
  repeat' ((first | apply split_cond | apply split_yes | apply split_no)<;>intro hc<;>simp -implicitDefEqProofs only [hc,go_sem,simprocAttr])
  rw [RL_eq]
  simp -implicitDefEqProofs only [go_sem,simprocAttr,strMax,it_0,it_1,w5]
  repeat' ((first | apply split_cond | apply split_yes | apply split_no)<;>intro hc<;>simp -implicitDefEqProofs only [hc,go_sem,simprocAttr,strMax,it_0,it_1,w5])
  rw [z3 _ _ _ _ _ (by simp only [locsL,locs,List.append_nil]) (by rfl)]
  simp -implicitDefEqProofs only [go_sem,simprocAttr]
  repeat' ((first | apply split_cond | apply split_yes | apply split_no)<;>intro hc<;>simp -implicitDefEqProofs only [hc,go_sem,simprocAttr])
  rw [RL_eq]
  simp -implicitDefEqProofs only [go_sem,simprocAttr,w7]
  repeat' ((first | apply split_cond | apply split_yes | apply split_no)<;>intro hc<;>simp -implicitDefEqProofs only [hc,go_sem,simprocAttr,w7])
  rw [RL_eq]
  simp -implicitDefEqProofs only [go_sem,simprocAttr,w8]
  repeat' ((first | apply split_cond | apply split_yes | apply split_no)<;>intro hc<;>simp -implicitDefEqProofs only [hc,go_sem,simprocAttr,w8])
theorem w_neg (args:List (List AV)) (hl:args.length≤1000000) (b:Nat) (ih:∀ a∈args,Wr a b):Wr (nd 4 17 0 0 args) (60+args.length*b):=by
 obtain ⟨t1,y1,y2⟩:=l_key args hl b ih args.length 0 (by omega)
 obtain ⟨t2,z1,z2⟩:=l_key [] (by simp) b (by simp) 0 0 rfl
 have ht2:t2=[]:=List.length_eq_zero_iff.1 (by simpa using z1)
 subst ht2
 refine ⟨nd_fl _ _ _ _ _,[91,52,44,49,55,44,48,44,102,97,108,115,101,44]++([48,44,48,44,34,34,44,34,34,44,34,34]++([59,48]++(t1++([59,49]++([59,111]++[93]))))),⟨?_,?_⟩,fun p s hp hs=>?_⟩
 ·simp only [List.length_append,List.length_cons,List.length_nil];omega
 ·simp only [List.length_append,List.length_cons,List.length_nil];omega
 have w1:=b_string p s [91,52,44,49,55,44,48,44,102,97,108,115,101,44] hp (by simp only [List.length_cons,List.length_nil];omega)
 obtain ⟨s1,hs1⟩:∃ s1,s1=s++[91,52,44,49,55,44,48,44,102,97,108,115,101,44]:=⟨_,rfl⟩
 have q1:s1.length=s.length+14:=by rw [hs1];simp
 rw [←hs1] at w1
 have w2:=b_string (.ptr 0 0) s1 [48,44,48,44,34,34,44,34,34,44,34,34] (.inr rfl) (by simp only [List.length_cons,List.length_nil];omega)
 obtain ⟨s2,hs2⟩:∃ s2,s2=s1++[48,44,48,44,34,34,44,34,34,44,34,34]:=⟨_,rfl⟩
 have q2:s2.length=s1.length+12:=by rw [hs2];simp
 rw [←hs2] at w2
 have w3:=b_string (.ptr 0 0) s2 [59,48] (.inr rfl) (by simp only [List.length_cons,List.length_nil];omega)
 obtain ⟨s3,hs3⟩:∃ s3,s3=s2++[59,48]:=⟨_,rfl⟩
 have q3:s3.length=s2.length+2:=by rw [hs3];simp
 rw [←hs3] at w3
 have y3:=fun A i0 H0 ks Bo hH hB=>y2 A i0 H0 ks Bo 0 s3 hH hB rfl (by omega)
 obtain ⟨s4,hs4⟩:∃ s4,s4=s3++t1:=⟨_,rfl⟩
 have q4:s4.length=s3.length+t1.length:=by rw [hs4,List.length_append]
 rw [←hs4] at y3
 have w5:=b_string (.ptr 0 0) s4 [59,49] (.inr rfl) (by simp only [List.length_cons,List.length_nil];omega)
 obtain ⟨s5,hs5⟩:∃ s5,s5=s4++[59,49]:=⟨_,rfl⟩
 have q5:s5.length=s4.length+2:=by rw [hs5];simp
 rw [←hs5] at w5
 have z3:=fun A i0 H0 ks Bo hH hB=>z2 A i0 H0 ks Bo 0 s5 hH hB rfl (by omega)
 rw [List.append_nil] at z3
 simp only [List.length_nil,show ((0:Nat):Int)=0 from rfl] at z3
 have w7:=c_order s5 (by omega)
 obtain ⟨s7,hs7⟩:∃ s7,s7=s5++[59,111]:=⟨_,rfl⟩
 have q7:s7.length=s5.length+2:=by rw [hs7];simp
 rw [←hs7] at w7
 have w8:=b_string (.ptr 0 0) s7 [93] (.inr rfl) (by simp only [List.length_cons,List.length_nil];omega)
 obtain ⟨s8,hs8⟩:∃ s8,s8=s7++[93]:=⟨_,rfl⟩
 rw [←hs8] at w8
 have e8:s++([91,52,44,49,55,44,48,44,102,97,108,115,101,44]++([48,44,48,44,34,34,44,34,34,44,34,34]++([59,48]++(t1++([59,49]++([59,111]++[93]))))))=s8:=by
  rw [hs8,hs7,hs5,hs4,hs3,hs2,hs1]
  simp only [List.append_assoc]
 rw [e8]
 simp only [BH,List.length_cons,List.length_nil] at w1 w2 w3 w5 w7 w8 y3 z3
 rcases hp with rfl | rfl
 all_goals
  rw [call_195]
  simp -implicitDefEqProofs only [go_sem,simprocAttr,Tryz.f195,BH,strMax,it_0,it_1,it_2,it_4,it_6,it_17,p_false,p_quote,w1,w2]
  repeat' ((first | apply split_cond | apply split_yes | apply split_no)<;>intro hc<;>simp -implicitDefEqProofs only [hc,go_sem,simprocAttr,BH,strMax,it_0,it_1,it_2,it_4,it_6,it_17,p_false,p_quote,w1,w2])
  rw [RL_eq]
  simp -implicitDefEqProofs only [go_sem,simprocAttr,strMax,it_0,it_1,w3]
  repeat' ((first | apply split_cond | apply split_yes | apply split_no)<;>intro hc<;>simp -implicitDefEqProofs only [hc,go_sem,simprocAttr,strMax,it_0,it_1,w3])
  rw [y3 _ _ _ _ _ (by simp only [locsL,locs,List.append_nil]) (by rfl)]
  simp -implicitDefEqProofs only [go_sem,simprocAttr]
  repeat' ((first | apply split_cond | apply split_yes | apply split_no)<;>intro hc<;>simp -implicitDefEqProofs only [hc,go_sem,simprocAttr])
  rw [RL_eq]
  simp -implicitDefEqProofs only [go_sem,simprocAttr,strMax,it_0,it_1,w5]
  repeat' ((first | apply split_cond | apply split_yes | apply split_no)<;>intro hc<;>simp -implicitDefEqProofs only [hc,go_sem,simprocAttr,strMax,it_0,it_1,w5])
  rw [z3 _ _ _ _ _ (by simp only [locsL,locs,List.append_nil]) (by rfl)]
  simp -implicitDefEqProofs only [go_sem,simprocAttr]
  repeat' ((first | apply split_cond | apply split_yes | apply split_no)<;>intro hc<;>simp -implicitDefEqProofs only [hc,go_sem,simprocAttr])
  rw [RL_eq]
  simp -implicitDefEqProofs only [go_sem,simprocAttr,w7]
  repeat' ((first | apply split_cond | apply split_yes | apply split_no)<;>intro hc<;>simp -implicitDefEqProofs only [hc,go_sem,simprocAttr,w7])
  rw [RL_eq]
  simp -implicitDefEqProofs only [go_sem,simprocAttr,w8]
  repeat' ((first | apply split_cond | apply split_yes | apply split_no)<;>intro hc<;>simp -implicitDefEqProofs only [hc,go_sem,simprocAttr,w8])
theorem w_in (args:List (List AV)) (hl:args.length≤1000000) (b:Nat) (ih:∀ a∈args,Wr a b):Wr (nd 6 0 0 0 args) (60+args.length*b):=by
 obtain ⟨t1,y1,y2⟩:=l_key args hl b ih args.length 0 (by omega)
 obtain ⟨t2,z1,z2⟩:=l_key [] (by simp) b (by simp) 0 0 rfl
 have ht2:t2=[]:=List.length_eq_zero_iff.1 (by simpa using z1)
 subst ht2
 refine ⟨nd_fl _ _ _ _ _,[91,54,44,48,44,48,44,102,97,108,115,101,44]++([48,44,48,44,34,34,44,34,34,44,34,34]++([59,48]++(t1++([59,49]++([59,111]++[93]))))),⟨?_,?_⟩,fun p s hp hs=>?_⟩
 ·simp only [List.length_append,List.length_cons,List.length_nil];omega
 ·simp only [List.length_append,List.length_cons,List.length_nil];omega
 have w1:=b_string p s [91,54,44,48,44,48,44,102,97,108,115,101,44] hp (by simp only [List.length_cons,List.length_nil];omega)
 obtain ⟨s1,hs1⟩:∃ s1,s1=s++[91,54,44,48,44,48,44,102,97,108,115,101,44]:=⟨_,rfl⟩
 have q1:s1.length=s.length+13:=by rw [hs1];simp
 rw [←hs1] at w1
 have w2:=b_string (.ptr 0 0) s1 [48,44,48,44,34,34,44,34,34,44,34,34] (.inr rfl) (by simp only [List.length_cons,List.length_nil];omega)
 obtain ⟨s2,hs2⟩:∃ s2,s2=s1++[48,44,48,44,34,34,44,34,34,44,34,34]:=⟨_,rfl⟩
 have q2:s2.length=s1.length+12:=by rw [hs2];simp
 rw [←hs2] at w2
 have w3:=b_string (.ptr 0 0) s2 [59,48] (.inr rfl) (by simp only [List.length_cons,List.length_nil];omega)
 obtain ⟨s3,hs3⟩:∃ s3,s3=s2++[59,48]:=⟨_,rfl⟩
 have q3:s3.length=s2.length+2:=by rw [hs3];simp
 rw [←hs3] at w3
 have y3:=fun A i0 H0 ks Bo hH hB=>y2 A i0 H0 ks Bo 0 s3 hH hB rfl (by omega)
 obtain ⟨s4,hs4⟩:∃ s4,s4=s3++t1:=⟨_,rfl⟩
 have q4:s4.length=s3.length+t1.length:=by rw [hs4,List.length_append]
 rw [←hs4] at y3
 have w5:=b_string (.ptr 0 0) s4 [59,49] (.inr rfl) (by simp only [List.length_cons,List.length_nil];omega)
 obtain ⟨s5,hs5⟩:∃ s5,s5=s4++[59,49]:=⟨_,rfl⟩
 have q5:s5.length=s4.length+2:=by rw [hs5];simp
 rw [←hs5] at w5
 have z3:=fun A i0 H0 ks Bo hH hB=>z2 A i0 H0 ks Bo 0 s5 hH hB rfl (by omega)
 rw [List.append_nil] at z3
 simp only [List.length_nil,show ((0:Nat):Int)=0 from rfl] at z3
 have w7:=c_order s5 (by omega)
 obtain ⟨s7,hs7⟩:∃ s7,s7=s5++[59,111]:=⟨_,rfl⟩
 have q7:s7.length=s5.length+2:=by rw [hs7];simp
 rw [←hs7] at w7
 have w8:=b_string (.ptr 0 0) s7 [93] (.inr rfl) (by simp only [List.length_cons,List.length_nil];omega)
 obtain ⟨s8,hs8⟩:∃ s8,s8=s7++[93]:=⟨_,rfl⟩
 rw [←hs8] at w8
 have e8:s++([91,54,44,48,44,48,44,102,97,108,115,101,44]++([48,44,48,44,34,34,44,34,34,44,34,34]++([59,48]++(t1++([59,49]++([59,111]++[93]))))))=s8:=by
  rw [hs8,hs7,hs5,hs4,hs3,hs2,hs1]
  simp only [List.append_assoc]
 rw [e8]
 simp only [BH,List.length_cons,List.length_nil] at w1 w2 w3 w5 w7 w8 y3 z3
 rcases hp with rfl | rfl
 all_goals
  rw [call_195]
  simp -implicitDefEqProofs only [go_sem,simprocAttr,Tryz.f195,BH,strMax,it_0,it_1,it_2,it_4,it_6,it_17,p_false,p_quote,w1,w2]
  repeat' ((first | apply split_cond | apply split_yes | apply split_no)<;>intro hc<;>simp -implicitDefEqProofs only [hc,go_sem,simprocAttr,BH,strMax,it_0,it_1,it_2,it_4,it_6,it_17,p_false,p_quote,w1,w2])
  rw [RL_eq]
  simp -implicitDefEqProofs only [go_sem,simprocAttr,strMax,it_0,it_1,w3]
  repeat' ((first | apply split_cond | apply split_yes | apply split_no)<;>intro hc<;>simp -implicitDefEqProofs only [hc,go_sem,simprocAttr,strMax,it_0,it_1,w3])
  rw [y3 _ _ _ _ _ (by simp only [locsL,locs,List.append_nil]) (by rfl)]
  simp -implicitDefEqProofs only [go_sem,simprocAttr]
  repeat' ((first | apply split_cond | apply split_yes | apply split_no)<;>intro hc<;>simp -implicitDefEqProofs only [hc,go_sem,simprocAttr])
  rw [RL_eq]
  simp -implicitDefEqProofs only [go_sem,simprocAttr,strMax,it_0,it_1,w5]
  repeat' ((first | apply split_cond | apply split_yes | apply split_no)<;>intro hc<;>simp -implicitDefEqProofs only [hc,go_sem,simprocAttr,strMax,it_0,it_1,w5])
  rw [z3 _ _ _ _ _ (by simp only [locsL,locs,List.append_nil]) (by rfl)]
  simp -implicitDefEqProofs only [go_sem,simprocAttr]
  repeat' ((first | apply split_cond | apply split_yes | apply split_no)<;>intro hc<;>simp -implicitDefEqProofs only [hc,go_sem,simprocAttr])
  rw [RL_eq]
  simp -implicitDefEqProofs only [go_sem,simprocAttr,w7]
  repeat' ((first | apply split_cond | apply split_yes | apply split_no)<;>intro hc<;>simp -implicitDefEqProofs only [hc,go_sem,simprocAttr,w7])
  rw [RL_eq]
  simp -implicitDefEqProofs only [go_sem,simprocAttr,w8]
  repeat' ((first | apply split_cond | apply split_yes | apply split_no)<;>intro hc<;>simp -implicitDefEqProofs only [hc,go_sem,simprocAttr,w8])
theorem b_text (p:AV) (s:List UInt8) (h0:0 < s.length) (hs:s.length≤40000000):R K (.call 21 [.tptr 67 0 0] (BH p s))=some (.str s,BH p s):=by
 refine R_primH rfl ?_
 show pBString 67 5 [.tptr 67 0 0] (BH p s)=_
 simp only [BH,pBString]
 rw [if_pos ⟨trivial,trivial,by rw [byteRows_length],h0,by omega⟩,bytesOf_rows]
theorem c_key (c:List AV) (B:Nat) (h:Wr c B) (hB:B≤38000000):∃ t,R K (.call 108 [.agg c] [])=some (.str t,[]):=by
 obtain ⟨fl,t,⟨h1,h0⟩,h2⟩:=h
 refine ⟨t,?_⟩
 have w:=h2 .nilp [] (.inl rfl) (by simpa using (by omega:B≤39000000))
 rw [List.nil_append] at w
 have w2:R K (.call 195 [.tptr 67 0 0,.agg c] [.cells [.nilp,.nils]])=some (.tup [],BH (.ptr 0 0) t):=by
  rw [←w,call_195,call_195]
  rfl
 have x:=b_text (.ptr 0 0) t h0 (by omega)
 have x1:=fl.len
 have xt:c.take 13=c:=by rw [←x1];exact List.take_length
 simp only [BH] at w2 x
 rw [call_108]
 simp -implicitDefEqProofs only [go_sem,simprocAttr,Tryz.f108,x1,fl.locs,fl.one,fl.conv,fl.ren,fl.pure,xt,w2,x]
 repeat' ((first | apply split_cond | apply split_yes | apply split_no)<;>intro hc<;>simp -implicitDefEqProofs only [hc,go_sem,simprocAttr,x1,fl.locs,fl.one,fl.conv,fl.ren,fl.pure,xt,w2,x])
abbrev leafX:List AV:=nd 1 0 2 1 []
def negX:Nat→List AV
 | 0=>leafX
 | n+1=>nd 4 17 0 0 [negX n]
def inX (n:Nat):List AV:=nd 6 0 0 0 (List.replicate n leafX)
theorem wr_leaf:Wr leafX 60:=by
 have:=w_leaf [] (by simp) 0 (by simp)
 simpa using this
theorem wr_neg:∀ n:Nat,Wr (negX n) (60*(n+1))
 | 0=>wr_leaf
 | n+1=>by
  have:=w_neg [negX n] (by simp) (60*(n+1)) (fun a ha=>by
   simp only [List.mem_singleton] at ha
   subst ha
   exact wr_neg n)
  rw [show 60*(n+1+1)=60+[negX n].length*(60*(n+1)) by simp only [List.length_cons,List.length_nil];omega]
  exact this
theorem wr_in (n:Nat) (hn:n≤100000):Wr (inX n) (60+n*60):=by
 have:=w_in (List.replicate n leafX) (by rw [List.length_replicate];omega) 60 (fun a ha=>by
  rw [List.eq_of_mem_replicate ha];exact wr_leaf)
 rwa [List.length_replicate] at this
open Classical in
noncomputable def keyOf (c:List AV):List UInt8:=if h:∃ t,R K (.call 108 [.agg c] [])=some (.str t,[]) then h.choose else []
theorem keyOf_ok {c:List AV} {B:Nat} (h:Wr c B) (hB:B≤38000000):R K (.call 108 [.agg c] [])=some (.str (keyOf c),[]):=by
 have h:=c_key c B h hB
 unfold keyOf
 rw [dif_pos h]
 exact h.choose_spec
abbrev itX (nm:List UInt8) (c:List AV):List AV:=.str nm::c
abbrev selX (its:List (List AV)):List AV:=[.bool false,.rows its,.rows [],.rows [],.rows [],.rows [],.rows [],.rows [],I (-1),I 0]
abbrev stX (ps its:List (List AV)):AV:=.agg [I 1,.rows ps,.rows [selX its],.str [],.str [],.rows [],.rows [],.rows [],.rows []]
abbrev smallX:AV:=.agg [.rows [[.str [97],.lit [[.str [105,100],I 2,.bool false,I 0,I 0,.str []]],.lit [[.str [105,100]]],.nils,.nils]]]
theorem l_ixE1 (args:List (List AV)) (hl:args.length≤1000000) (fl:∀ a∈args,Fl a) (ih:∀ a∈args,R K (.call 167 [.agg a] [])=some (.bool false,[])) (ks:List It) :
  ∀ (m j:Nat) (i:Int) (Bo:Code),Loop Tryz.f258 0 Bo→i=(j:Int)→args.length=j+m →
  RL K (.run 258 0 (.code Bo::.lp Bo (some ([0,1,7,8],[])) 0::.blk 0 0::ks) [(0,.rows args),(1,.fn 167 []),(7,I (args.length:Int)),(8,I i)] [])=R K (.run 258 0 ks [] [])
 | 0,j,i,Bo,hB,hi,hj=>by
  subst hi
  have d:decide ((j:Int) < (args.length:Int))=false:=decide_eq_false (by omega)
  unfold Loop at hB
  simp -implicitDefEqProofs only [go_sem,simprocAttr,Tryz.f258,loopOf] at hB
  subst hB
  rw [RL_eq]
  simp -implicitDefEqProofs only [go_sem,simprocAttr,d]
  repeat' ((first | apply split_cond | apply split_yes | apply split_no)<;>intro hc<;>simp -implicitDefEqProofs only [hc,go_sem,simprocAttr,d])
 | m+1,j,i,Bo,hB,hi,hj=>by
  subst hi
  have hB':=hB
  have d:decide ((j:Int) < (args.length:Int))=true:=decide_eq_true (by omega)
  have h7:=next_id (i:=j) (n:=args.length) (by omega) (by omega)
  obtain ⟨x,hx⟩:=some_at (l:=args) (i:=j) (by omega)
  have hg:=at_get hx
  have fx:=fl x (List.mem_of_getElem? hx)
  have r:=ih x (List.mem_of_getElem? hx)
  have x1:=fx.len
  have xt:x.take 13=x:=by rw [←x1];exact List.take_length
  have z:=l_ixE1 args hl fl ih ks m (j+1) _ Bo hB' rfl (by omega)
  unfold Loop at hB
  simp -implicitDefEqProofs only [go_sem,simprocAttr,Tryz.f258,loopOf] at hB
  subst hB
  rw [RL_eq]
  simp -implicitDefEqProofs only [go_sem,simprocAttr,d,h7,hg,x1,xt,fx.locs,fx.one,fx.pure,r]
  repeat' ((first | apply split_cond | apply split_yes | apply split_no)<;>intro hc<;>simp -implicitDefEqProofs only [hc,go_sem,simprocAttr,d,h7,hg,x1,xt,fx.locs,fx.one,fx.pure,r])
  rw [z]
theorem c_noneE1 (args:List (List AV)) (hl:args.length≤1000000) (fl:∀ a∈args,Fl a) (ih:∀ a∈args,R K (.call 167 [.agg a] [])=some (.bool false,[])):R K (.call 169 [.rows args,.fn 167 []] [])=some (.bool false,[]):=by
 have lk:=fun ks B hB=>l_ixE1 args hl fl ih ks args.length 0 0 B hB rfl (by omega)
 have x:R K (.call 258 [.rows args,.fn 167 []] [])=some (I (-1),[]):=by
  rw [call_258]
  simp -implicitDefEqProofs only [go_sem,simprocAttr,Tryz.f258]
  repeat' ((first | apply split_cond | apply split_yes | apply split_no)<;>intro hc<;>simp -implicitDefEqProofs only [hc,go_sem,simprocAttr])
  rw [lk _ _ (by rfl)]
  simp -implicitDefEqProofs only [go_sem,simprocAttr]
  repeat' ((first | apply split_cond | apply split_yes | apply split_no)<;>intro hc<;>simp -implicitDefEqProofs only [hc,go_sem,simprocAttr])
 rw [call_169]
 simp -implicitDefEqProofs only [go_sem,simprocAttr,Tryz.f169,x]
 repeat' ((first | apply split_cond | apply split_yes | apply split_no)<;>intro hc<;>simp -implicitDefEqProofs only [hc,go_sem,simprocAttr,x])
theorem l_ixE2 (args:List (List AV)) (hl:args.length≤1000000) (fl:∀ a∈args,Fl a) (ih:∀ a∈args,R K (.call 198 [.agg a] [])=some (.bool false,[])) (ks:List It) :
  ∀ (m j:Nat) (i:Int) (Bo:Code),Loop Tryz.f258 0 Bo→i=(j:Int)→args.length=j+m →
  RL K (.run 258 0 (.code Bo::.lp Bo (some ([0,1,7,8],[])) 0::.blk 0 0::ks) [(0,.rows args),(1,.fn 198 []),(7,I (args.length:Int)),(8,I i)] [])=R K (.run 258 0 ks [] [])
 | 0,j,i,Bo,hB,hi,hj=>by
  subst hi
  have d:decide ((j:Int) < (args.length:Int))=false:=decide_eq_false (by omega)
  unfold Loop at hB
  simp -implicitDefEqProofs only [go_sem,simprocAttr,Tryz.f258,loopOf] at hB
  subst hB
  rw [RL_eq]
  simp -implicitDefEqProofs only [go_sem,simprocAttr,d]
  repeat' ((first | apply split_cond | apply split_yes | apply split_no)<;>intro hc<;>simp -implicitDefEqProofs only [hc,go_sem,simprocAttr,d])
 | m+1,j,i,Bo,hB,hi,hj=>by
  subst hi
  have hB':=hB
  have d:decide ((j:Int) < (args.length:Int))=true:=decide_eq_true (by omega)
  have h7:=next_id (i:=j) (n:=args.length) (by omega) (by omega)
  obtain ⟨x,hx⟩:=some_at (l:=args) (i:=j) (by omega)
  have hg:=at_get hx
  have fx:=fl x (List.mem_of_getElem? hx)
  have r:=ih x (List.mem_of_getElem? hx)
  have x1:=fx.len
  have xt:x.take 13=x:=by rw [←x1];exact List.take_length
  have z:=l_ixE2 args hl fl ih ks m (j+1) _ Bo hB' rfl (by omega)
  unfold Loop at hB
  simp -implicitDefEqProofs only [go_sem,simprocAttr,Tryz.f258,loopOf] at hB
  subst hB
  rw [RL_eq]
  simp -implicitDefEqProofs only [go_sem,simprocAttr,d,h7,hg,x1,xt,fx.locs,fx.one,fx.pure,r]
  repeat' ((first | apply split_cond | apply split_yes | apply split_no)<;>intro hc<;>simp -implicitDefEqProofs only [hc,go_sem,simprocAttr,d,h7,hg,x1,xt,fx.locs,fx.one,fx.pure,r])
  rw [z]
theorem c_noneE2 (args:List (List AV)) (hl:args.length≤1000000) (fl:∀ a∈args,Fl a) (ih:∀ a∈args,R K (.call 198 [.agg a] [])=some (.bool false,[])):R K (.call 169 [.rows args,.fn 198 []] [])=some (.bool false,[]):=by
 have lk:=fun ks B hB=>l_ixE2 args hl fl ih ks args.length 0 0 B hB rfl (by omega)
 have x:R K (.call 258 [.rows args,.fn 198 []] [])=some (I (-1),[]):=by
  rw [call_258]
  simp -implicitDefEqProofs only [go_sem,simprocAttr,Tryz.f258]
  repeat' ((first | apply split_cond | apply split_yes | apply split_no)<;>intro hc<;>simp -implicitDefEqProofs only [hc,go_sem,simprocAttr])
  rw [lk _ _ (by rfl)]
  simp -implicitDefEqProofs only [go_sem,simprocAttr]
  repeat' ((first | apply split_cond | apply split_yes | apply split_no)<;>intro hc<;>simp -implicitDefEqProofs only [hc,go_sem,simprocAttr])
 rw [call_169]
 simp -implicitDefEqProofs only [go_sem,simprocAttr,Tryz.f169,x]
 repeat' ((first | apply split_cond | apply split_yes | apply split_no)<;>intro hc<;>simp -implicitDefEqProofs only [hc,go_sem,simprocAttr,x])
theorem k_ord1:R K (.call 91 [.rows [],.fn 257 []] [])=some (.bool false,[]):=R_of_runN (n:=80) (by kernel_rfl)
theorem k_ord2:R K (.call 91 [.rows [],.fn 299 []] [])=some (.bool false,[]):=R_of_runN (n:=80) (by kernel_rfl)
def NoAg (g:FuncId) (c:List AV):Prop:=R K (.call g [.agg c] [])=some (.bool false,[])
theorem c_hasAgg (k op vk vn:Int) (hk:(k==9)=false) (args:List (List AV)) (hl:args.length≤1000000) (fl:∀ a∈args,Fl a) (ih:∀ a∈args,NoAg 167 a):NoAg 167 (nd k op vk vn args):=by
 have x:=c_noneE1 args hl fl ih
 have y:=c_noneE1 [] (by simp) (by simp) (by simp)
 have z:=k_ord1
 unfold NoAg
 rw [call_167]
 simp -implicitDefEqProofs only [go_sem,simprocAttr,Tryz.f167,hk,x,y,z]
 repeat' ((first | apply split_cond | apply split_yes | apply split_no)<;>intro hc<;>simp -implicitDefEqProofs only [hc,go_sem,simprocAttr,hk,x,y,z])
theorem r_hasAgg (k op vk vn:Int) (hk:(k==9)=false) (args:List (List AV)) (hl:args.length≤1000000) (fl:∀ a∈args,Fl a) (ih:∀ a∈args,NoAg 198 a):NoAg 198 (nd k op vk vn args):=by
 have x:=c_noneE2 args hl fl ih
 have y:=c_noneE2 [] (by simp) (by simp) (by simp)
 have z:=k_ord2
 unfold NoAg
 rw [call_198]
 simp -implicitDefEqProofs only [go_sem,simprocAttr,Tryz.f198,hk,x,y,z]
 repeat' ((first | apply split_cond | apply split_yes | apply split_no)<;>intro hc<;>simp -implicitDefEqProofs only [hc,go_sem,simprocAttr,hk,x,y,z])
abbrev ZH (P V:Int) (b:Bool):Heap:=[.cells [I P,I V,.bool b]]
def bigB (b:Bool) (P L:Int):Bool:=b||decide (12000 < P)||decide (80 < L)
theorem bigB_iff (b:Bool) (P L:Int):bigB b P L=true↔(b=true∨12000 < P∨80 < L):=by
 simp only [bigB,Bool.or_eq_true,decide_eq_true_eq,or_assoc]
abbrev mxI (V L:Int):Int:=if V < L then L else V
theorem c_part (P V L:Int) (b:Bool) (hP:0≤P) (hP2:P≤1000000):R K (.call 252 [.ptr 0 0,I L] (ZH P V b))=some (.bool (!bigB b (P+1) L),ZH (P+1) (mxI V L) (bigB b (P+1) L)):=by
 have e1:wrapI .i64 (P+1)=P+1:=wrap_id (by omega) (by omega)
 unfold bigB
 rcases b with _ | _
 ·by_cases h1:12000 < P+1
  ·have d1:decide (12000 < P+1)=true:=by simpa using h1
   rw [call_252]
   simp -implicitDefEqProofs only [go_sem,simprocAttr,Tryz.f252,ZH,e1,h1,d1]
   repeat' ((first | apply split_cond | apply split_yes | apply split_no)<;>intro hc<;>simp -implicitDefEqProofs only [hc,go_sem,simprocAttr,ZH,e1,h1,d1])
  ·have d1:decide (12000 < P+1)=false:=by simpa using h1
   by_cases h2:80 < L
   ·have d2:decide (80 < L)=true:=by simpa using h2
    rw [call_252]
    simp -implicitDefEqProofs only [go_sem,simprocAttr,Tryz.f252,ZH,e1,h1,d1,h2,d2]
    repeat' ((first | apply split_cond | apply split_yes | apply split_no)<;>intro hc<;>simp -implicitDefEqProofs only [hc,go_sem,simprocAttr,ZH,e1,h1,d1,h2,d2])
   ·have d2:decide (80 < L)=false:=by simpa using h2
    rw [call_252]
    simp -implicitDefEqProofs only [go_sem,simprocAttr,Tryz.f252,ZH,e1,h1,d1,h2,d2]
    repeat' ((first | apply split_cond | apply split_yes | apply split_no)<;>intro hc<;>simp -implicitDefEqProofs only [hc,go_sem,simprocAttr,ZH,e1,h1,d1,h2,d2])
 ·rw [call_252]
  simp -implicitDefEqProofs only [go_sem,simprocAttr,Tryz.f252,ZH,e1]
  repeat' ((first | apply split_cond | apply split_yes | apply split_no)<;>intro hc<;>simp -implicitDefEqProofs only [hc,go_sem,simprocAttr,ZH,e1])
def SzP (c:List AV) (m d:Nat):Prop:=Fl c∧∀ (P V L:Int) (b:Bool),0≤P→P+(m:Int)≤900000→0≤L→L+(d:Int)≤900000→∃ P' V':Int,R K (.call 253 [.ptr 0 0,.agg c,I L] (ZH P V b))=some (.tup [],ZH P' V' (bigB b (P+(m:Int)) (L+(d:Int))))∧P≤P'∧P'≤P+(m:Int)∧(bigB b (P+(m:Int)) (L+(d:Int))=false→P'=P+(m:Int))
def bigL (b:Bool) (k m d:Nat) (P L:Int):Bool:=if k=0 then b else bigB b (P+((k*m:Nat):Int)) (L+(d:Int))
theorem bigL_iff (b:Bool) (k m d:Nat) (P L:Int):bigL b k m d P L=true↔(b=true∨(k≠0∧(12000 < P+((k*m:Nat):Int)∨80 < L+(d:Int)))):=by
 unfold bigL
 by_cases h:k=0
 ·simp [h]
 ·rw [if_neg h,bigB_iff];simp [h]
theorem bigL_step {b:Bool} {k m d:Nat} {P P1 L:Int} (h1:bigB b (P+(m:Int)) (L+(d:Int))=false→P1=P+(m:Int)):bigL (bigB b (P+(m:Int)) (L+(d:Int))) k m d P1 L=bigL b (k+1) m d P L:=by
 have hk:((k+1)*m:Nat)=k*m+m:=Nat.succ_mul k m
 rw [Bool.eq_iff_iff,bigL_iff,bigL_iff,bigB_iff,hk]
 by_cases hb:bigB b (P+(m:Int)) (L+(d:Int))=true
 ·rw [bigB_iff] at hb
  rcases b with _ | _
  ·simp only [Bool.false_eq_true,false_or] at hb ⊢
   constructor
   ·intro _;refine ⟨by omega,?_⟩;omega
   ·intro _;exact .inl hb
  ·simp
 ·have hP:=h1 (by simpa using hb)
  subst hP
  rw [bigB_iff] at hb
  rcases b with _ | _
  ·simp only [Bool.false_eq_true,false_or] at hb ⊢
   by_cases h0:k=0
   ·subst h0;simp
   ·constructor<;>intro _<;>omega
  ·simp at hb
theorem l_szE (args:List (List AV)) (hl:args.length≤1000000) (m d:Nat) (ih:∀ a∈args,SzP a m d):∀ (k j:Nat) (P V L:Int) (b:Bool),args.length=j+k→0≤P→P+((k*m:Nat):Int)≤900000→0≤L→L+(d:Int)≤900000→∃ P' V':Int,(P≤P'∧P'≤P+((k*m:Nat):Int)∧(bigL b k m d P L=false→P'=P+((k*m:Nat):Int)))∧∀ (ks:List It) (Bo:Code) (i:Int),Loop Tryz.f164 0 Bo→i=(j:Int) →
  RL K (.run 164 1 (.code Bo::.lp Bo (some ([0,2,8,9,10],[])) 1::.blk 0 1::ks) [(0,.ptr 0 0),(2,I L),(8,.rows args),(9,I (args.length:Int)),(10,I i)] (ZH P V b))=R K (.run 164 1 ks [] (ZH P' V' (bigL b k m d P L)))
 | 0,j,P,V,L,b,hj,h0,h1,h2,h3=>by
  refine ⟨P,V,⟨by omega,by simp,fun _=>by simp⟩,fun ks Bo i hB hi=>?_⟩
  subst hi
  have dd:decide ((j:Int) < (args.length:Int))=false:=decide_eq_false (by omega)
  have e:bigL b 0 m d P L=b:=rfl
  rw [e]
  simp only [ZH]
  unfold Loop at hB
  simp -implicitDefEqProofs only [go_sem,simprocAttr,Tryz.f164,loopOf] at hB
  subst hB
  rw [RL_eq]
  simp -implicitDefEqProofs only [go_sem,simprocAttr,dd]
  repeat' ((first | apply split_cond | apply split_yes | apply split_no)<;>intro hc<;>simp -implicitDefEqProofs only [hc,go_sem,simprocAttr,dd])
 | k+1,j,P,V,L,b,hj,h0,h1,h2,h3=>by
  have hk:((k+1)*m:Nat)=k*m+m:=Nat.succ_mul k m
  rw [hk] at h1
  obtain ⟨x,hx⟩:=some_at (l:=args) (i:=j) (by omega)
  obtain ⟨fx,sx⟩:=ih x (List.mem_of_getElem? hx)
  obtain ⟨P1,V1,r,p1,p2,p3⟩:=sx P V L b h0 (by omega) h2 h3
  obtain ⟨P2,V2,⟨q1,q2,q3⟩,z⟩:=l_szE args hl m d ih k (j+1) P1 V1 L (bigB b (P+(m:Int)) (L+(d:Int))) (by omega) (by omega) (by omega) h2 h3
  have hs:=bigL_step (k:=k) p3
  rw [hs] at q3 z
  refine ⟨P2,V2,⟨by omega,by rw [hk];omega,fun hb=>?_⟩,fun ks Bo i hB hi=>?_⟩
  ·have e1:=q3 hb
   have:bigB b (P+(m:Int)) (L+(d:Int))=false:=by
    rcases hh:bigB b (P+(m:Int)) (L+(d:Int)) with _ | _
    ·rfl
    ·rw [hh] at hs
     rw [←hs] at hb
     have:=(bigL_iff true k m d P1 L).2 (.inl rfl)
     rw [this] at hb
     exact absurd hb (by simp)
   rw [hk]
   have:=p3 this
   omega
  subst hi
  have hB':=hB
  have dd:decide ((j:Int) < (args.length:Int))=true:=decide_eq_true (by omega)
  have h7:=next_id (i:=j) (n:=args.length) (by omega) (by omega)
  have hg:=at_get hx
  have x1:=fx.len
  have xt:x.take 13=x:=by rw [←x1];exact List.take_length
  have z:=z ks Bo _ hB' rfl
  simp only [ZH] at r z ⊢
  unfold Loop at hB
  simp -implicitDefEqProofs only [go_sem,simprocAttr,Tryz.f164,loopOf] at hB
  subst hB
  rw [RL_eq]
  simp -implicitDefEqProofs only [go_sem,simprocAttr,dd,h7,hg,x1,xt,fx.locs,fx.one,fx.conv,fx.ren,fx.pure,r]
  repeat' ((first | apply split_cond | apply split_yes | apply split_no)<;>intro hc<;>simp -implicitDefEqProofs only [hc,go_sem,simprocAttr,dd,h7,hg,x1,xt,fx.locs,fx.one,fx.conv,fx.ren,fx.pure,r])
  rw [z]
theorem c_szE (args:List (List AV)) (hl:args.length≤1000000) (m d:Nat) (ih:∀ a∈args,SzP a m d) (P V L:Int) (b:Bool) (h0:0≤P) (h1:P+((args.length*m:Nat):Int)≤900000) (h2:0≤L) (h3:L+(d:Int)≤900000):∃ P' V':Int,(P≤P'∧P'≤P+((args.length*m:Nat):Int)∧(bigL b args.length m d P L=false→P'=P+((args.length*m:Nat):Int))) ∧
  R K (.call 164 [.ptr 0 0,.rows args,I L] (ZH P V b))=some (.tup [],ZH P' V' (bigL b args.length m d P L)):=by
 obtain ⟨P1,V1,q,z⟩:=l_szE args hl m d ih args.length 0 P V L b (by omega) h0 h1 h2 h3
 refine ⟨P1,V1,q,?_⟩
 have z:=fun ks Bo hB=>z ks Bo 0 hB rfl
 simp only [ZH] at z ⊢
 rw [call_164]
 simp -implicitDefEqProofs only [go_sem,simprocAttr,Tryz.f164]
 repeat' ((first | apply split_cond | apply split_yes | apply split_no)<;>intro hc<;>simp -implicitDefEqProofs only [hc,go_sem,simprocAttr])
 rw [z _ _ (by rfl)]
 simp -implicitDefEqProofs only [go_sem,simprocAttr]
 repeat' ((first | apply split_cond | apply split_yes | apply split_no)<;>intro hc<;>simp -implicitDefEqProofs only [hc,go_sem,simprocAttr])
theorem z_ords (c:List AV) (L:Int) (hc:locsL c=[]):R K (.call 255 [.ptr 0 0,.rows [],I L] [.cells c])=some (.tup [],[.cells c]):=by
 rw [call_255]
 simp -implicitDefEqProofs only [go_sem,simprocAttr,Tryz.f255,hc]
 repeat' ((first | apply split_cond | apply split_yes | apply split_no)<;>intro hc<;>simp -implicitDefEqProofs only [hc,go_sem,simprocAttr,hc])
 rw [RL_eq]
 simp -implicitDefEqProofs only [go_sem,simprocAttr,hc]
 repeat' ((first | apply split_cond | apply split_yes | apply split_no)<;>intro hc<;>simp -implicitDefEqProofs only [hc,go_sem,simprocAttr,hc])
theorem z_sels (c:List AV) (L:Int) (hc:locsL c=[]):R K (.call 163 [.ptr 0 0,.rows [],I L] [.cells c])=some (.tup [],[.cells c]):=by
 rw [call_163]
 simp -implicitDefEqProofs only [go_sem,simprocAttr,Tryz.f163,hc]
 repeat' ((first | apply split_cond | apply split_yes | apply split_no)<;>intro hc<;>simp -implicitDefEqProofs only [hc,go_sem,simprocAttr,hc])
 rw [RL_eq]
 simp -implicitDefEqProofs only [go_sem,simprocAttr,hc]
 repeat' ((first | apply split_cond | apply split_yes | apply split_no)<;>intro hc<;>simp -implicitDefEqProofs only [hc,go_sem,simprocAttr,hc])
theorem z_exprs (c:List AV) (L:Int) (hc:locsL c=[]):R K (.call 164 [.ptr 0 0,.rows [],I L] [.cells c])=some (.tup [],[.cells c]):=by
 rw [call_164]
 simp -implicitDefEqProofs only [go_sem,simprocAttr,Tryz.f164,hc]
 repeat' ((first | apply split_cond | apply split_yes | apply split_no)<;>intro hc<;>simp -implicitDefEqProofs only [hc,go_sem,simprocAttr,hc])
 rw [RL_eq]
 simp -implicitDefEqProofs only [go_sem,simprocAttr,hc]
 repeat' ((first | apply split_cond | apply split_yes | apply split_no)<;>intro hc<;>simp -implicitDefEqProofs only [hc,go_sem,simprocAttr,hc])
theorem c_szX (k op vk vn:Int) (args:List (List AV)) (hl:args.length≤1000000) (m d D:Nat) (ih:∀ a∈args,SzP a m d) (hD:(args.length=0→D=0)∧(args.length≠0→D=d+1)):SzP (nd k op vk vn args) (1+args.length*m) D:=by
 refine ⟨nd_fl _ _ _ _ _,fun P V L b h0 h1 h2 h3=>?_⟩
 have x:=c_part P V L b h0 (by omega)
 have e2:wrapI .i64 (L+1)=L+1:=wrap_id (by omega) (by omega)
 rcases hb:bigB b (P+1) L with _ | _
 ·rw [hb] at x
  obtain ⟨P1,V1,⟨q1,q2,q3⟩,z⟩:∃ P' V':Int,(P+1≤P'∧P'≤P+1+((args.length*m:Nat):Int)∧(bigL false args.length m d (P+1) (L+1)=false→P'=P+1+((args.length*m:Nat):Int))) ∧
    R K (.call 164 [.ptr 0 0,.rows args,I (L+1)] (ZH (P+1) (mxI V L) false))=some (.tup [],ZH P' V' (bigL false args.length m d (P+1) (L+1))):=by
   by_cases h:args.length=0
   ·obtain rfl:args=[]:=List.length_eq_zero_iff.1 h
    refine ⟨P+1,mxI V L,⟨by omega,by simp,fun _=>by simp⟩,?_⟩
    exact z_exprs _ _ rfl
   ·have:=hD.2 h
    exact c_szE args hl m d ih (P+1) (mxI V L) (L+1) false (by omega) (by omega) (by omega) (by omega)
  have e:bigL false args.length m d (P+1) (L+1)=bigB b (P+((1+args.length*m:Nat):Int)) (L+(D:Int)):=by
   have hb':¬(bigB b (P+1) L=true):=by rw [hb];simp
   rw [bigB_iff] at hb'
   rw [Bool.eq_iff_iff,bigL_iff,bigB_iff]
   rcases b with _ | _
   ·simp only [Bool.false_eq_true,false_or] at hb' ⊢
    by_cases h:args.length=0
    ·have:=hD.1 h
     rw [h];simp;omega
    ·have:=hD.2 h
     constructor
     ·intro ⟨_,h⟩;omega
     ·intro h';exact ⟨h,by omega⟩
   ·simp at hb'
  rw [e] at q3 z
  refine ⟨P1,V1,?_,by omega,by omega,fun h=>by have:=q3 h;omega⟩
  have y1:=z_exprs [I P1,I V1,.bool (bigB b (P+((1+args.length*m:Nat):Int)) (L+(D:Int)))] (L+1) rfl
  have y2:=z_ords [I P1,I V1,.bool (bigB b (P+((1+args.length*m:Nat):Int)) (L+(D:Int)))] (L+1) rfl
  have y3:=z_sels [I P1,I V1,.bool (bigB b (P+((1+args.length*m:Nat):Int)) (L+(D:Int)))] (L+1) rfl
  simp only [ZH] at x z ⊢
  rw [call_253]
  simp -implicitDefEqProofs only [go_sem,simprocAttr,Tryz.f253,x,e2,z,y1,y2,y3]
  repeat' ((first | apply split_cond | apply split_yes | apply split_no)<;>intro hc<;>simp -implicitDefEqProofs only [hc,go_sem,simprocAttr,x,e2,z,y1,y2,y3])
 ·have e:bigB b (P+((1+args.length*m:Nat):Int)) (L+(D:Int))=true:=by
   rw [bigB_iff] at hb ⊢
   rcases b with _ | _
   ·simp only [Bool.false_eq_true,false_or] at hb ⊢;omega
   ·simp
  rw [hb] at x
  rw [e]
  refine ⟨P+1,mxI V L,?_,by omega,by omega,fun h=>by simp at h⟩
  simp only [ZH] at x ⊢
  rw [call_253]
  simp -implicitDefEqProofs only [go_sem,simprocAttr,Tryz.f253,x]
  repeat' ((first | apply split_cond | apply split_yes | apply split_no)<;>intro hc<;>simp -implicitDefEqProofs only [hc,go_sem,simprocAttr,x])
theorem sz_leaf:SzP leafX 1 0:=by
 have:=c_szX 1 0 2 1 [] (by simp) 0 0 0 (by simp) ⟨fun _=>rfl,fun h=>absurd rfl h⟩
 simpa using this
theorem sz_neg:∀ n:Nat,n≤1000→SzP (negX n) (n+1) n
 | 0,_=>sz_leaf
 | n+1,h=>by
  have:=c_szX 4 17 0 0 [negX n] (by simp) (n+1) n (n+1) (fun a ha=>by
   simp only [List.mem_singleton] at ha
   subst ha
   exact sz_neg n (by omega)) ⟨fun h=>by simp at h,fun _=>rfl⟩
  rw [show 1+[negX n].length*(n+1)=n+1+1 by simp only [List.length_cons,List.length_nil];omega] at this
  exact this
theorem sz_in (n:Nat) (hn:n≤100000) (h0:n≠0):SzP (inX n) (1+n) 1:=by
 have:=c_szX 6 0 0 0 (List.replicate n leafX) (by rw [List.length_replicate];omega) 1 0 1 (fun a ha=>by
  rw [List.eq_of_mem_replicate ha];exact sz_leaf) ⟨fun h=>by rw [List.length_replicate] at h;exact absurd h h0,fun _=>rfl⟩
 rwa [List.length_replicate,Nat.mul_one] at this
def ItZ (m d:Nat) (x:List AV):Prop:=∃ nm c,x=.str nm::c∧SzP c m d
theorem l_szI (its:List (List AV)) (hl:its.length≤1000000) (m d:Nat) (S:List AV) (hS:locsL S=[]) (ih:∀ a∈its,ItZ m d a):∀ (k j:Nat) (P V:Int) (b:Bool),its.length=j+k→0≤P→P+((k*(m+1):Nat):Int)≤800000→d≤800000→∃ P' V':Int,(P≤P'∧P'≤P+((k*(m+1):Nat):Int))∧∀ (ks:List It) (Bo:Code) (i:Int),Loop Tryz.f163 2 Bo→i=(j:Int) →
  RL K (.run 163 1 (.code Bo::.lp Bo (some ([0,2,7,14,15,16,48,49,50],[])) 2::.blk 2 2::ks) [(0,.ptr 0 0),(2,I 1),(7,.ptr 1 0),(14,.rows [S]),(15,I 1),(16,I 0),(48,.rows its),(49,I (its.length:Int)),(50,I i)] (ZH P V b++[.cells S]))=R K (.run 163 1 ks [(0,.ptr 0 0),(2,I 1),(7,.ptr 1 0),(14,.rows [S]),(15,I 1),(16,I 0)] (ZH P' V' (bigL b k (m+1) (d+1) P 2)++[.cells S]))
 | 0,j,P,V,b,hj,h0,h1,h2=>by
  refine ⟨P,V,⟨by omega,by simp⟩,fun ks Bo i hB hi=>?_⟩
  subst hi
  have dd:decide ((j:Int) < (its.length:Int))=false:=decide_eq_false (by omega)
  have e:bigL b 0 (m+1) (d+1) P 2=b:=rfl
  rw [e]
  simp only [ZH,List.cons_append,List.nil_append]
  unfold Loop at hB
  simp -implicitDefEqProofs only [go_sem,simprocAttr,Tryz.f163,loopOf] at hB
  subst hB
  rw [RL_eq]
  simp -implicitDefEqProofs only [go_sem,simprocAttr,dd,hS]
  repeat' ((first | apply split_cond | apply split_yes | apply split_no)<;>intro hc<;>simp -implicitDefEqProofs only [hc,go_sem,simprocAttr,dd,hS])
 | k+1,j,P,V,b,hj,h0,h1,h2=>by
  have hk:((k+1)*(m+1):Nat)=k*(m+1)+(m+1):=Nat.succ_mul k (m+1)
  rw [hk] at h1
  obtain ⟨x,hx⟩:=some_at (l:=its) (i:=j) (by omega)
  obtain ⟨nm,c,rfl,fx,sx⟩:=ih x (List.mem_of_getElem? hx)
  have p0:=c_part P V 2 b h0 (by omega)
  obtain ⟨P1,V1,r,p1,p2,p3⟩:∃ P1 V1:Int,(∀ (ks:List It) (Bo:Code),Loop Tryz.f163 2 Bo →
    RL K (.run 163 1 (.code Bo::.lp Bo (some ([0,2,7,14,15,16,48,49,50],[])) 2::.blk 2 2::ks) [(0,.ptr 0 0),(2,I 1),(7,.ptr 1 0),(14,.rows [S]),(15,I 1),(16,I 0),(48,.rows its),(49,I (its.length:Int)),(50,I (j:Int))] (ZH P V b++[.cells S])) =
    RL K (.run 163 1 (.code Bo::.lp Bo (some ([0,2,7,14,15,16,48,49,50],[])) 2::.blk 2 2::ks) [(0,.ptr 0 0),(2,I 1),(7,.ptr 1 0),(14,.rows [S]),(15,I 1),(16,I 0),(48,.rows its),(49,I (its.length:Int)),(50,I ((j+1:Nat):Int))] (ZH P1 V1 (bigB b (P+((m+1:Nat):Int)) (2+((d+1:Nat):Int)))++[.cells S])))∧P≤P1∧P1≤P+((m+1:Nat):Int)∧(bigB b (P+((m+1:Nat):Int)) (2+((d+1:Nat):Int))=false→P1=P+((m+1:Nat):Int)):=by
   have dd:decide ((j:Int) < (its.length:Int))=true:=decide_eq_true (by omega)
   have h7:=next_id (i:=j) (n:=its.length) (by omega) (by omega)
   have hg:=at_get hx
   have x1:=fx.len
   have xt:c.take 13=c:=by rw [←x1];exact List.take_length
   rcases hb:bigB b (P+1) 2 with _ | _
   ·rw [hb] at p0
    obtain ⟨P1,V1,r,p1,p2,p3⟩:=sx (P+1) (mxI V 2) 3 false (by omega) (by omega) (by omega) (by omega)
    have e:bigB false (P+1+(m:Int)) (3+(d:Int))=bigB b (P+((m+1:Nat):Int)) (2+((d+1:Nat):Int)):=by
     have hb':¬(bigB b (P+1) 2=true):=by rw [hb];simp
     rw [bigB_iff] at hb'
     rw [Bool.eq_iff_iff,bigB_iff,bigB_iff]
     rcases b with _ | _
     ·simp only [Bool.false_eq_true,false_or] at hb' ⊢
      omega
     ·simp at hb'
    rw [e] at r p3
    refine ⟨P1,V1,fun ks Bo hB=>?_,by omega,by omega,fun h=>by have:=p3 h;omega⟩
    have hB':=hB
    simp only [ZH,List.cons_append,List.nil_append] at p0 r ⊢
    unfold Loop at hB
    simp -implicitDefEqProofs only [go_sem,simprocAttr,Tryz.f163,loopOf] at hB
    subst hB
    rw [RL_eq]
    simp -implicitDefEqProofs only [go_sem,simprocAttr,dd,h7,hg,x1,xt,hS,fx.locs,fx.one,fx.conv,fx.ren,fx.pure,p0,r]
    repeat' ((first | apply split_cond | apply split_yes | apply split_no)<;>intro hc<;>simp -implicitDefEqProofs only [hc,go_sem,simprocAttr,dd,h7,hg,x1,xt,hS,fx.locs,fx.one,fx.conv,fx.ren,fx.pure,p0,r])
   ·rw [hb] at p0
    have e:bigB b (P+((m+1:Nat):Int)) (2+((d+1:Nat):Int))=true:=by
     rw [bigB_iff] at hb ⊢
     rcases b with _ | _
     ·simp only [Bool.false_eq_true,false_or] at hb ⊢;omega
     ·simp
    rw [e]
    refine ⟨P+1,mxI V 2,fun ks Bo hB=>?_,by omega,by omega,fun h=>by simp at h⟩
    have hB':=hB
    simp only [ZH,List.cons_append,List.nil_append] at p0 ⊢
    unfold Loop at hB
    simp -implicitDefEqProofs only [go_sem,simprocAttr,Tryz.f163,loopOf] at hB
    subst hB
    rw [RL_eq]
    simp -implicitDefEqProofs only [go_sem,simprocAttr,dd,h7,hg,x1,xt,hS,fx.locs,fx.one,fx.conv,fx.ren,fx.pure,p0]
    repeat' ((first | apply split_cond | apply split_yes | apply split_no)<;>intro hc<;>simp -implicitDefEqProofs only [hc,go_sem,simprocAttr,dd,h7,hg,x1,xt,hS,fx.locs,fx.one,fx.conv,fx.ren,fx.pure,p0])
  obtain ⟨P2,V2,⟨q1,q2⟩,z⟩:=l_szI its hl m d S hS ih k (j+1) P1 V1 (bigB b (P+((m+1:Nat):Int)) (2+((d+1:Nat):Int))) (by omega) (by omega) (by omega) h2
  have hs:=bigL_step (k:=k) p3
  rw [hs] at z
  refine ⟨P2,V2,⟨by omega,by rw [hk];omega⟩,fun ks Bo i hB hi=>?_⟩
  subst hi
  rw [r ks Bo hB]
  exact z ks Bo _ hB rfl
attribute [go_sem] settle settleBy List.range_zero List.contains_cons List.contains_nil
def bigS (n m d:Nat):Bool:=bigL (decide (70 < n)) n (m+1) (d+1) 1 2
theorem c_szS (its:List (List AV)) (hl:its.length≤1000000) (m d:Nat) (hm:its.length*(m+1)≤700000) (hd:d≤700000) (ih:∀ a∈its,ItZ m d a):∃ P V:Int,R K (.call 163 [.ptr 0 0,.rows [selX its],I 1] (ZH 0 0 false))=some (.tup [],ZH P V (bigS its.length m d)):=by
 obtain ⟨P1,V1,q,z⟩:=l_szI its hl m d (selX its) rfl ih its.length 0 1 1 (decide (70 < its.length)) (by omega) (by omega) (by omega) (by omega)
 refine ⟨P1,V1,?_⟩
 have x:=c_part 0 0 1 false (by omega) (by omega)
 rw [show (0:Int)+1=1 from rfl,show mxI 0 1=1 from rfl,show bigB false 1 1=false from rfl] at x
 have z:=fun ks Bo hB=>z ks Bo 0 hB rfl
 have dn:decide ((70:Int) < (its.length:Int))=decide (70 < its.length):=by simp only [decide_eq_decide];omega
 have y0:=z_exprs [I P1,I V1,.bool (bigS its.length m d)] 2 rfl
 have y1:=z_ords [I P1,I V1,.bool (bigS its.length m d)] 2 rfl
 simp only [ZH,List.cons_append,List.nil_append] at x z ⊢
 have e:bigL (decide (70 < its.length)) its.length (m+1) (d+1) 1 2=bigS its.length m d:=rfl
 rw [e] at z
 rw [call_163]
 simp -implicitDefEqProofs only [go_sem,simprocAttr,Tryz.f163]
 repeat' ((first | apply split_cond | apply split_yes | apply split_no)<;>intro hc<;>simp -implicitDefEqProofs only [hc,go_sem,simprocAttr])
 rw [RL_eq]
 simp -implicitDefEqProofs only [go_sem,simprocAttr,x,dn]
 repeat' ((first | apply split_cond | apply split_yes | apply split_no)<;>intro hc<;>simp -implicitDefEqProofs only [hc,go_sem,simprocAttr,x,dn])
 rw [z _ _ (by rfl)]
 simp -implicitDefEqProofs only [go_sem,simprocAttr]
 repeat' ((first | apply split_cond | apply split_yes | apply split_no)<;>intro hc<;>simp -implicitDefEqProofs only [hc,go_sem,simprocAttr])
 rw [RL_eq]
 simp -implicitDefEqProofs only [go_sem,simprocAttr]
 repeat' ((first | apply split_cond | apply split_yes | apply split_no)<;>intro hc<;>simp -implicitDefEqProofs only [hc,go_sem,simprocAttr])
 rw [RL_eq]
 simp -implicitDefEqProofs only [go_sem,simprocAttr,y0,y1]
 repeat' ((first | apply split_cond | apply split_yes | apply split_no)<;>intro hc<;>simp -implicitDefEqProofs only [hc,go_sem,simprocAttr,y0,y1])
 rw [RL_eq]
 simp -implicitDefEqProofs only [go_sem,simprocAttr]
 repeat' ((first | apply split_cond | apply split_yes | apply split_no)<;>intro hc<;>simp -implicitDefEqProofs only [hc,go_sem,simprocAttr])
theorem c_sized (ps its:List (List AV)) (hl:its.length≤1000000) (m d:Nat) (hm:its.length*(m+1)≤700000) (hd:d≤700000) (ih:∀ a∈its,ItZ m d a):∃ P V:Int,R K (.call 79 [stX ps its] [])=some (.ptr 0 0,ZH P V (bigS its.length m d)):=by
 obtain ⟨P,V,x⟩:=c_szS its hl m d hm hd ih
 refine ⟨P,V,?_⟩
 have y0:=z_exprs [I P,I V,.bool (bigS its.length m d)] 1 rfl
 simp only [ZH,List.cons_append,List.nil_append] at x ⊢
 rw [call_79]
 simp -implicitDefEqProofs only [go_sem,simprocAttr,Tryz.f79,x,y0]
 repeat' ((first | apply split_cond | apply split_yes | apply split_no)<;>intro hc<;>simp -implicitDefEqProofs only [hc,go_sem,simprocAttr,x,y0])
 rw [RL_eq]
 simp -implicitDefEqProofs only [go_sem,simprocAttr,y0]
 repeat' ((first | apply split_cond | apply split_yes | apply split_no)<;>intro hc<;>simp -implicitDefEqProofs only [hc,go_sem,simprocAttr,y0])
theorem c_small (ps its:List (List AV)) (hl:its.length≤1000000) (m d:Nat) (hm:its.length*(m+1)≤700000) (hd:d≤700000) (ih:∀ a∈its,ItZ m d a):R K (.call 37 [stX ps its] [])=some (.bool (!bigS its.length m d&&decide (ps.length≤60)),[]):=by
 obtain ⟨P,V,x⟩:=c_sized ps its hl m d hm hd ih
 have dn:decide ((ps.length:Int)≤60)=decide (ps.length≤60):=by simp only [decide_eq_decide];omega
 simp only [ZH,List.cons_append,List.nil_append] at x
 rcases hb:bigS its.length m d with _ | _
 ·rw [hb] at x
  rw [call_37]
  simp -implicitDefEqProofs only [go_sem,simprocAttr,Tryz.f37,x,dn]
  repeat' ((first | apply split_cond | apply split_yes | apply split_no)<;>intro hc<;>simp -implicitDefEqProofs only [hc,go_sem,simprocAttr,x,dn])
 ·rw [hb] at x
  rw [call_37]
  simp -implicitDefEqProofs only [go_sem,simprocAttr,Tryz.f37,x,dn]
  repeat' ((first | apply split_cond | apply split_yes | apply split_no)<;>intro hc<;>simp -implicitDefEqProofs only [hc,go_sem,simprocAttr,x,dn])
theorem k_inner (k op vk vn:Int) (args:List (List AV)) (h9:(k==9)=false) (h10:(k==10)=false) (w1 w2:Bool):R K (.call 175 [.agg (nd k op vk vn args),.agg [.bool w1,.bool w2,.bool false]] [])=some (.agg [.bool w1,.bool w2,.bool false],[]):=by
 rw [call_175]
 simp -implicitDefEqProofs only [go_sem,simprocAttr,Tryz.f175,h9,h10]
 repeat' ((first | apply split_cond | apply split_yes | apply split_no)<;>intro hc<;>simp -implicitDefEqProofs only [hc,go_sem,simprocAttr,h9,h10])
theorem k_mis (k op vk vn:Int) (args:List (List AV)) (h9:(k==9)=false) (h10:(k==10)=false) (w1 w2:Bool):R K (.call 177 [.agg (nd k op vk vn args),.agg [.bool w1,.bool w2,.bool false]] [])=some (.bool false,[]):=by
 rw [call_177]
 simp -implicitDefEqProofs only [go_sem,simprocAttr,Tryz.f177,h9,h10]
 repeat' ((first | apply split_cond | apply split_yes | apply split_no)<;>intro hc<;>simp -implicitDefEqProofs only [hc,go_sem,simprocAttr,h9,h10])
structure Qt (A:List AV):Prop where
 locs:locsL A=[]
 ren:∀ σ:Nat→Nat,renL σ A=A
def ChP (c:List AV) (k:Int):Prop:=Fl c∧∀ (A B:List AV) (w1 w2:Bool),Qt A→Qt B→R K (.call 90 [.ptr 0 0,.agg c,.ptr 1 0,.agg [.bool w1,.bool w2,.bool false]] [.cells A,.cells B])=some (.tup [I k,I 0],[.cells A,.cells B])
theorem locsR_ap2:∀ a b:List (List AV),locsR (a++b)=locsR a++locsR b
 | [],b=>rfl
 | x::a,b=>by rw [List.cons_append,locsR,locsR,locsR_ap2 a b,List.append_assoc]
theorem l_chE (args:List (List AV)) (hl:args.length≤1000000) (kk:Int) (ih:∀ a∈args,ChP a kk) (A B:List AV) (w1 w2:Bool) (qA:Qt A) (qB:Qt B):∀ (m j:Nat) (R0:List (List AV)) (i:Int) (Bo:Code) (ks:List It),args.length=j+m→R0.length=j→locsR R0=[]→i=(j:Int)→Loop Tryz.f83 0 Bo →
  RL K (.run 83 2 (.code Bo::.lp Bo (some ([0,2,7,10,15,16,17],[])) 4::.blk 0 4::ks) [(0,.ptr 0 0),(2,.ptr 1 0),(7,.ptr 2 0),(10,.own 3 j),(15,.rows args),(16,I (args.length:Int)),(17,I i)] [.cells A,.cells B,.cells [.bool w1,.bool w2,.bool false],.rows 1 R0 true]) =
  R K (.run 83 2 ks [(10,.own 3 args.length)] [.cells A,.cells B,.cells [.bool w1,.bool w2,.bool false],.rows 1 (R0++List.replicate m [I kk]) true])
 | 0,j,R0,i,Bo,ks,hj,hR,hL,hi,hB=>by
  subst hi
  have ej:args.length=j:=by omega
  have d:decide ((j:Int) < (j:Int))=false:=decide_eq_false (by omega)
  rw [ej,show List.replicate 0 [I kk]=[] from rfl,List.append_nil]
  unfold Loop at hB
  simp -implicitDefEqProofs only [go_sem,simprocAttr,Tryz.f83,loopOf] at hB
  subst hB
  rw [RL_eq]
  simp -implicitDefEqProofs only [go_sem,simprocAttr,d,qA.locs,qB.locs]
  repeat' ((first | apply split_cond | apply split_yes | apply split_no)<;>intro hc<;>simp -implicitDefEqProofs only [hc,go_sem,simprocAttr,d,qA.locs,qB.locs])
 | m+1,j,R0,i,Bo,ks,hj,hR,hL,hi,hB=>by
  subst hi
  have hB':=hB
  have d:decide ((j:Int) < (args.length:Int))=true:=decide_eq_true (by omega)
  have h7:=next_id (i:=j) (n:=args.length) (by omega) (by omega)
  obtain ⟨x,hx⟩:=some_at (l:=args) (i:=j) (by omega)
  have hg:=at_get hx
  obtain ⟨fx,hp⟩:=ih x (List.mem_of_getElem? hx)
  have r:=hp A B w1 w2 qA qB
  have x1:=fx.len
  have xt:x.take 13=x:=by rw [←x1];exact List.take_length
  have hL':locsR (R0++[[I kk]])=[]:=by rw [locsR_ap2,hL];rfl
  have room:((j+1)*9≤roomMax)=True:=eq_true (by unfold roomMax;omega)
  have z:=l_chE args hl kk ih A B w1 w2 qA qB m (j+1) (R0++[[I kk]]) _ Bo ks (by omega) (by rw [List.length_append];simp [hR]) hL' rfl hB'
  rw [List.append_assoc,List.singleton_append,←List.replicate_succ] at z
  unfold Loop at hB
  simp -implicitDefEqProofs only [go_sem,simprocAttr,Tryz.f83,loopOf] at hB
  subst hB
  rw [RL_eq]
  simp -implicitDefEqProofs only [go_sem,simprocAttr,d,h7,hg,x1,xt,qA.locs,qB.locs,qA.ren,qB.ren,fx.locs,fx.one,fx.conv,fx.ren,fx.pure,r,hR,room,hL',under]
  repeat' ((first | apply split_cond | apply split_yes | apply split_no)<;>intro hc<;>simp -implicitDefEqProofs only [hc,go_sem,simprocAttr,d,h7,hg,x1,xt,qA.locs,qB.locs,qA.ren,qB.ren,fx.locs,fx.one,fx.conv,fx.ren,fx.pure,r,hR,room,hL',under])
  rw [z,List.replicate_succ]
theorem locsR_rep (n:Nat) (k:Int):locsR (List.replicate n [I k])=[]:=by
 induction n with
 | zero=>rfl
 | succ n ih=>rw [List.replicate_succ,locsR,ih];rfl
theorem c_chE (args:List (List AV)) (hl:args.length≤1000000) (kk:Int) (ih:∀ a∈args,ChP a kk) (A B:List AV) (w1 w2:Bool) (qA:Qt A) (qB:Qt B):R K (.call 83 [.ptr 0 0,.rows args,.ptr 1 0,.agg [.bool w1,.bool w2,.bool false]] [.cells A,.cells B])=some (.tup [.rows (List.replicate args.length [I kk]),I 0],[.cells A,.cells B]):=by
 have lk:=fun Bo ks hB=>l_chE args hl kk ih A B w1 w2 qA qB args.length 0 [] 0 Bo ks (by omega) rfl rfl rfl hB
 rw [List.nil_append] at lk
 rw [call_83]
 simp -implicitDefEqProofs only [go_sem,simprocAttr,Tryz.f83,qA.locs,qB.locs]
 repeat' ((first | apply split_cond | apply split_yes | apply split_no)<;>intro hc<;>simp -implicitDefEqProofs only [hc,go_sem,simprocAttr,qA.locs,qB.locs])
 rw [lk _ _ (by rfl)]
 simp -implicitDefEqProofs only [go_sem,simprocAttr,qA.locs,qB.locs,locsR_rep,true_or,if_true]
 repeat' ((first | apply split_cond | apply split_yes | apply split_no)<;>intro hc<;>simp -implicitDefEqProofs only [hc,go_sem,simprocAttr,qA.locs,qB.locs,locsR_rep,true_or,if_true])
abbrev twos (n:Nat):List (List AV):=List.replicate n [I 2]
theorem twos_at {n j:Nat} (h:j < n):at? (twos n) (j:Int)=some [I 2]:=by
 unfold at?
 rw [if_pos (by omega)]
 simp [twos,h]
theorem l_comm (n:Nat) (hn:n≤1000000) (ks:List It):∀ (m j:Nat) (i o:Int) (Bo:Code),Loop Tryz.f368 0 Bo→i=(j:Int)→n=j+m→(j=0∧o=0∨0 < j∧o=2) →
  RL K (.run 368 0 (.code Bo::.lp Bo (some ([4,7,8,9],[])) 0::.blk 0 0::ks) [(4,I o),(7,.rows (twos n)),(8,I (n:Int)),(9,I i)] [])=R K (.run 368 0 ks [(4,I (if n=0 then 0 else 2))] [])
 | 0,j,i,o,Bo,hB,hi,hj,ho=>by
  subst hi
  have ej:n=j:=by omega
  have h1:decide ((j:Int) < (n:Int))=false:=decide_eq_false (by omega)
  have eo:(if n=0 then (0:Int) else 2)=o:=by
   rcases ho with ⟨h,rfl⟩ | ⟨h,rfl⟩
   ·rw [if_pos (by omega)]
   ·rw [if_neg (by omega)]
  rw [eo]
  unfold Loop at hB
  simp -implicitDefEqProofs only [go_sem,simprocAttr,Tryz.f368,loopOf] at hB
  subst hB
  rw [RL_eq]
  simp -implicitDefEqProofs only [go_sem,simprocAttr,h1]
  repeat' ((first | apply split_cond | apply split_yes | apply split_no)<;>intro hc<;>simp -implicitDefEqProofs only [hc,go_sem,simprocAttr,h1])
 | m+1,j,i,o,Bo,hB,hi,hj,ho=>by
  subst hi
  have hB':=hB
  have h1:decide ((j:Int) < (n:Int))=true:=decide_eq_true (by omega)
  have h7:=next_id (i:=j) (n:=n) (by omega) (by omega)
  have hg:=twos_at (n:=n) (j:=j) (by omega)
  have ih:=l_comm n hn ks m (j+1) _ 2 Bo hB' rfl (by omega) (.inr ⟨by omega,rfl⟩)
  have bn:∀ a b:Int,(a != b)=!(a==b):=fun _ _=>rfl
  rcases ho with ⟨_,rfl⟩ | ⟨_,rfl⟩
  ·have m1:(if (0:Int) < 2 then (2:Int) else 0)=2:=by decide
   unfold Loop at hB
   simp -implicitDefEqProofs only [go_sem,simprocAttr,Tryz.f368,loopOf] at hB
   subst hB
   rw [RL_eq]
   simp -implicitDefEqProofs only [go_sem,simprocAttr,h1,h7,hg,bn,m1]
   repeat' ((first | apply split_cond | apply split_yes | apply split_no)<;>intro hc<;>simp -implicitDefEqProofs only [hc,go_sem,simprocAttr,h1,h7,hg,bn,m1])
   rw [ih]
  ·have m1:(if (2:Int) < 2 then (2:Int) else 2)=2:=by decide
   unfold Loop at hB
   simp -implicitDefEqProofs only [go_sem,simprocAttr,Tryz.f368,loopOf] at hB
   subst hB
   rw [RL_eq]
   simp -implicitDefEqProofs only [go_sem,simprocAttr,h1,h7,hg,bn,m1]
   repeat' ((first | apply split_cond | apply split_yes | apply split_no)<;>intro hc<;>simp -implicitDefEqProofs only [hc,go_sem,simprocAttr,h1,h7,hg,bn,m1])
   rw [ih]
theorem c_comm (n:Nat) (hn:n≤1000000) (h0:n≠0):R K (.call 275 [.rows (twos n)] [])=some (.tup [I 2,.bool true],[]):=by
 have lk:=fun ks B hB=>l_comm n hn ks n 0 0 0 B hB rfl (by omega) (.inl ⟨rfl,rfl⟩)
 rw [if_neg h0] at lk
 have x:R K (.call 368 [.rows (twos n)] [])=some (.tup [I 2,.bool true],[]):=by
  rw [call_368]
  simp -implicitDefEqProofs only [go_sem,simprocAttr,Tryz.f368,List.length_replicate]
  repeat' ((first | apply split_cond | apply split_yes | apply split_no)<;>intro hc<;>simp -implicitDefEqProofs only [hc,go_sem,simprocAttr,List.length_replicate])
  rw [lk _ _ (by rfl)]
  simp -implicitDefEqProofs only [go_sem,simprocAttr]
  repeat' ((first | apply split_cond | apply split_yes | apply split_no)<;>intro hc<;>simp -implicitDefEqProofs only [hc,go_sem,simprocAttr])
 rw [call_275]
 simp -implicitDefEqProofs only [go_sem,simprocAttr,Tryz.f275,x]
 repeat' ((first | apply split_cond | apply split_yes | apply split_no)<;>intro hc<;>simp -implicitDefEqProofs only [hc,go_sem,simprocAttr,x])
theorem k_known:R K (.call 266 [I 17] [])=some (.bool true,[]):=R_of_runN (n:=400) (by kernel_rfl)
theorem k_usesN:R K (.call 267 [I 17] [])=some (.bool false,[]):=R_of_runN (n:=400) (by kernel_rfl)
theorem k_arity:R K (.call 487 [I 17] [])=some (I 1,[]):=R_of_runN (n:=400) (by kernel_rfl)
theorem k_rightN:R K (.call 272 [I 17,I 0] [])=some (.bool true,[]):=R_of_runN (n:=400) (by kernel_rfl)
theorem k_fits:R K (.call 438 [.rows (twos 1),.rows [[I 2]]] [])=some (.bool true,[]):=R_of_runN (n:=400) (by kernel_rfl)
theorem k_const:R K (.call 270 [.agg [I 2,I 1,.str []]] [])=some (I 0,[]):=R_of_runN (n:=400) (by kernel_rfl)
theorem k_form0:R K (.call 176 [.agg leafX] [])=some (I 0,[]):=R_of_runN (n:=900) (by kernel_rfl)
theorem k_form1 (a:List AV):R K (.call 176 [.agg (nd 4 17 0 0 [a])] [])=some (I 0,[]):=by
 have x1:R K (.call 437 [.agg (nd 4 17 0 0 [a])] [])=some (.bool true,[]):=by
  rw [call_437]
  simp -implicitDefEqProofs only [go_sem,simprocAttr,Tryz.f437,k_arity]
  repeat' ((first | apply split_cond | apply split_yes | apply split_no)<;>intro hc<;>simp -implicitDefEqProofs only [hc,go_sem,simprocAttr,k_arity])
 have x2:R K (.call 364 [.agg (nd 4 17 0 0 [a])] [])=some (.bool true,[]):=by
  rw [call_364]
  simp -implicitDefEqProofs only [go_sem,simprocAttr,Tryz.f364,x1]
  repeat' ((first | apply split_cond | apply split_yes | apply split_no)<;>intro hc<;>simp -implicitDefEqProofs only [hc,go_sem,simprocAttr,x1])
 have x3:R K (.call 268 [.agg (nd 4 17 0 0 [a])] [])=some (.bool true,[]):=by
  rw [call_268]
  simp -implicitDefEqProofs only [go_sem,simprocAttr,Tryz.f268,x2]
  repeat' ((first | apply split_cond | apply split_yes | apply split_no)<;>intro hc<;>simp -implicitDefEqProofs only [hc,go_sem,simprocAttr,x2])
 have x4:R K (.call 269 [.agg (nd 4 17 0 0 [a])] [])=some (.bool true,[]):=by
  rw [call_269]
  simp -implicitDefEqProofs only [go_sem,simprocAttr,Tryz.f269]
  repeat' ((first | apply split_cond | apply split_yes | apply split_no)<;>intro hc<;>simp -implicitDefEqProofs only [hc,go_sem,simprocAttr])
 have x5:R K (.call 31 [I 4,I 1,I 10] [])=some (.bool true,[]):=R_of_runN (n:=60) (by kernel_rfl)
 rw [call_176]
 simp -implicitDefEqProofs only [go_sem,simprocAttr,Tryz.f176,x3,x4,x5,k_known,k_usesN,strMax,beq_self_eq_true,Nat.zero_le]
 repeat' ((first | apply split_cond | apply split_yes | apply split_no)<;>intro hc<;>simp -implicitDefEqProofs only [hc,go_sem,simprocAttr,x3,x4,x5,k_known,k_usesN,strMax,beq_self_eq_true,Nat.zero_le])
theorem k_form2 (args:List (List AV)) (hl:args.length≤1000000) (h2:2≤args.length):R K (.call 176 [.agg (nd 6 0 0 0 args)] [])=some (I 0,[]):=by
 have d:decide ((2:Int)≤(args.length:Int))=true:=decide_eq_true (by omega)
 have x1:R K (.call 437 [.agg (nd 6 0 0 0 args)] [])=some (.bool true,[]):=by
  rw [call_437]
  simp -implicitDefEqProofs only [go_sem,simprocAttr,Tryz.f437,d]
  repeat' ((first | apply split_cond | apply split_yes | apply split_no)<;>intro hc<;>simp -implicitDefEqProofs only [hc,go_sem,simprocAttr,d])
 have x2:R K (.call 364 [.agg (nd 6 0 0 0 args)] [])=some (.bool true,[]):=by
  rw [call_364]
  simp -implicitDefEqProofs only [go_sem,simprocAttr,Tryz.f364,x1]
  repeat' ((first | apply split_cond | apply split_yes | apply split_no)<;>intro hc<;>simp -implicitDefEqProofs only [hc,go_sem,simprocAttr,x1])
 have x3:R K (.call 268 [.agg (nd 6 0 0 0 args)] [])=some (.bool true,[]):=by
  rw [call_268]
  simp -implicitDefEqProofs only [go_sem,simprocAttr,Tryz.f268,x2]
  repeat' ((first | apply split_cond | apply split_yes | apply split_no)<;>intro hc<;>simp -implicitDefEqProofs only [hc,go_sem,simprocAttr,x2])
 have x4:R K (.call 269 [.agg (nd 6 0 0 0 args)] [])=some (.bool true,[]):=by
  rw [call_269]
  simp -implicitDefEqProofs only [go_sem,simprocAttr,Tryz.f269]
  repeat' ((first | apply split_cond | apply split_yes | apply split_no)<;>intro hc<;>simp -implicitDefEqProofs only [hc,go_sem,simprocAttr])
 have x5:R K (.call 31 [I 6,I 1,I 10] [])=some (.bool true,[]):=R_of_runN (n:=60) (by kernel_rfl)
 rw [call_176]
 simp -implicitDefEqProofs only [go_sem,simprocAttr,Tryz.f176,x3,x4,x5,strMax,beq_self_eq_true,Nat.zero_le]
 repeat' ((first | apply split_cond | apply split_yes | apply split_no)<;>intro hc<;>simp -implicitDefEqProofs only [hc,go_sem,simprocAttr,x3,x4,x5,strMax,beq_self_eq_true,Nat.zero_le])
theorem k_kind0 (A B:List AV) (qA:Qt A) (qB:Qt B):R K (.call 178 [.ptr 0 0,.agg leafX,.rows [],.rows [],.ptr 1 0] [.cells A,.cells B])=some (.tup [I 2,I 0],[.cells A,.cells B]):=by
 rw [call_178]
 simp -implicitDefEqProofs only [go_sem,simprocAttr,Tryz.f178,k_const,qA.locs,qB.locs,qA.ren,qB.ren]
 repeat' ((first | apply split_cond | apply split_yes | apply split_no)<;>intro hc<;>simp -implicitDefEqProofs only [hc,go_sem,simprocAttr,k_const,qA.locs,qB.locs,qA.ren,qB.ren])
theorem k_kind1 (a:List AV) (fa:Fl a) (A B:List AV) (qA:Qt A) (qB:Qt B):R K (.call 178 [.ptr 0 0,.agg (nd 4 17 0 0 [a]),.rows [[I 2]],.rows [],.ptr 1 0] [.cells A,.cells B])=some (.tup [I 2,I 0],[.cells A,.cells B]):=by
 have kf:R K (.call 438 [.rows [[I 2]],.rows [[I 2]]] [])=some (.bool true,[]):=k_fits
 have x:R K (.call 366 [.agg (nd 4 17 0 0 [a]),.rows [[I 2]]] [])=some (.tup [I 2,.bool true],[]):=by
  rw [call_366]
  simp -implicitDefEqProofs only [go_sem,simprocAttr,Tryz.f366,kf]
  repeat' ((first | apply split_cond | apply split_yes | apply split_no)<;>intro hc<;>simp -implicitDefEqProofs only [hc,go_sem,simprocAttr,kf])
 have y:R K (.call 273 [.agg (nd 4 17 0 0 [a]),.rows [[I 2]]] [])=some (.tup [I 2,.bool true],[]):=by
  rw [call_273]
  simp -implicitDefEqProofs only [go_sem,simprocAttr,Tryz.f273,x]
  repeat' ((first | apply split_cond | apply split_yes | apply split_no)<;>intro hc<;>simp -implicitDefEqProofs only [hc,go_sem,simprocAttr,x])
 rw [call_178]
 simp -implicitDefEqProofs only [go_sem,simprocAttr,Tryz.f178,k_rightN,y,qA.locs,qB.locs,qA.ren,qB.ren]
 repeat' ((first | apply split_cond | apply split_yes | apply split_no)<;>intro hc<;>simp -implicitDefEqProofs only [hc,go_sem,simprocAttr,k_rightN,y,qA.locs,qB.locs,qA.ren,qB.ren])
theorem k_kind2 (args:List (List AV)) (n:Nat) (hn:n≤1000000) (h0:n≠0) (A B:List AV) (qA:Qt A) (qB:Qt B):R K (.call 178 [.ptr 0 0,.agg (nd 6 0 0 0 args),.rows (twos n),.rows [],.ptr 1 0] [.cells A,.cells B])=some (.tup [I 1,I 0],[.cells A,.cells B]):=by
 have x:=c_comm n hn h0
 rw [call_178]
 simp -implicitDefEqProofs only [go_sem,simprocAttr,Tryz.f178,x,qA.locs,qB.locs,qA.ren,qB.ren]
 repeat' ((first | apply split_cond | apply split_yes | apply split_no)<;>intro hc<;>simp -implicitDefEqProofs only [hc,go_sem,simprocAttr,x,qA.locs,qB.locs,qA.ren,qB.ren])
theorem c_chX (k op vk vn:Int) (h9:(k==9)=false) (h10:(k==10)=false) (args:List (List AV)) (hl:args.length≤1000000) (ih:∀ a∈args,ChP a 2) (r:Int) (hf:R K (.call 176 [.agg (nd k op vk vn args)] [])=some (I 0,[]))
  (hk:∀ A B:List AV,Qt A→Qt B→R K (.call 178 [.ptr 0 0,.agg (nd k op vk vn args),.rows (twos args.length),.rows [],.ptr 1 0] [.cells A,.cells B])=some (.tup [I r,I 0],[.cells A,.cells B])):ChP (nd k op vk vn args) r:=by
 refine ⟨nd_fl _ _ _ _ _,fun A B w1 w2 qA qB=>?_⟩
 have x1:=k_inner k op vk vn args h9 h10 w1 w2
 have x2:=k_mis k op vk vn args h9 h10 w1 w2
 have x3:=c_chE args hl 2 ih A B w1 w2 qA qB
 have x4:=c_chE [] (by simp) 2 (by simp) A B w1 w2 qA qB
 rw [show List.replicate ([]:List (List AV)).length [I 2]=[] from rfl] at x4
 have x5:=hk A B qA qB
 rw [call_90]
 simp -implicitDefEqProofs only [go_sem,simprocAttr,Tryz.f90,x1,x2,x3,x4,x5,hf,qA.locs,qB.locs,qA.ren,qB.ren]
 repeat' ((first | apply split_cond | apply split_yes | apply split_no)<;>intro hc<;>simp -implicitDefEqProofs only [hc,go_sem,simprocAttr,x1,x2,x3,x4,x5,hf,qA.locs,qB.locs,qA.ren,qB.ren])
 rw [RL_eq]
 simp -implicitDefEqProofs only [go_sem,simprocAttr,x1,x2,x3,x4,x5,hf,qA.locs,qB.locs,qA.ren,qB.ren,ne_eq,not_true_eq_false,or_self,locsR_rep]
 repeat' ((first | apply split_cond | apply split_yes | apply split_no)<;>intro hc<;>simp -implicitDefEqProofs only [hc,go_sem,simprocAttr,x1,x2,x3,x4,x5,hf,qA.locs,qB.locs,qA.ren,qB.ren,ne_eq,not_true_eq_false,or_self,locsR_rep])
 rw [RL_eq]
 simp -implicitDefEqProofs only [go_sem,simprocAttr,x1,x2,x3,x4,x5,hf,qA.locs,qB.locs,qA.ren,qB.ren,ne_eq,not_true_eq_false,or_self,locsR_rep]
 repeat' ((first | apply split_cond | apply split_yes | apply split_no)<;>intro hc<;>simp -implicitDefEqProofs only [hc,go_sem,simprocAttr,x1,x2,x3,x4,x5,hf,qA.locs,qB.locs,qA.ren,qB.ren,ne_eq,not_true_eq_false,or_self,locsR_rep])
theorem ch_leaf:ChP leafX 2:=c_chX 1 0 2 1 rfl rfl [] (by simp) (by simp) 2 k_form0 (fun A B qA qB=>k_kind0 A B qA qB)
theorem ch_neg:∀ n:Nat,ChP (negX n) 2
 | 0=>ch_leaf
 | n+1=>c_chX 4 17 0 0 rfl rfl [negX n] (by simp) (fun a ha=>by
   simp only [List.mem_singleton] at ha
   subst ha
   exact ch_neg n) 2 (k_form1 _) (fun A B qA qB=>k_kind1 _ (ch_neg n).1 A B qA qB)
theorem ch_in (n:Nat) (hn:n≤100000) (h2:2≤n):ChP (inX n) 1:=by
 have hl:(List.replicate n leafX).length=n:=List.length_replicate
 exact c_chX 6 0 0 0 rfl rfl (List.replicate n leafX) (by omega) (fun a ha=>by
  rw [List.eq_of_mem_replicate ha];exact ch_leaf) 1 (k_form2 _ (by omega) (by omega)) (fun A B qA qB=>by
  rw [hl];exact k_kind2 _ n (by omega) (by omega) A B qA qB)
def lowB (b:UInt8):Bool:=decide (97≤b.toNat)&&decide (b.toNat≤122)
theorem k_ofWord (b:UInt8) (h:lowB b=true):R K (.call 265 [.int .u8 (b.toNat:Int)] [])=some (.bool true,[]):=by
 simp only [lowB,Bool.and_eq_true,decide_eq_true_eq] at h
 have h1:decide ((97:Int)≤(b.toNat:Int))=true:=decide_eq_true (by omega)
 have h2:decide ((b.toNat:Int)≤122)=true:=decide_eq_true (by omega)
 rw [call_265]
 simp -implicitDefEqProofs only [go_sem,simprocAttr,Tryz.f265,h1,h2]
 repeat' ((first | apply split_cond | apply split_yes | apply split_no)<;>intro hc<;>simp -implicitDefEqProofs only [hc,go_sem,simprocAttr,h1,h2])
theorem l_isWord (s:List UInt8) (hs:s.length≤1000000) (ha:∀ b∈s,lowB b=true) (ks:List It):∀ (q j:Nat) (i:Int) (Bo:Code),Loop Tryz.f173 0 Bo→i=(j:Int)→s.length=j+q →
  RL K (.run 173 0 (.code Bo::.lp Bo (some ([0,5,6],[])) 0::.blk 0 0::ks) [(0,.str s),(5,I (s.length:Int)),(6,I i)] [])=R K (.run 173 0 ks [] [])
 | 0,j,i,Bo,hB,hi,hq=>by
  subst hi
  have d:decide ((j:Int) < (s.length:Int))=false:=decide_eq_false (by omega)
  unfold Loop at hB
  simp -implicitDefEqProofs only [go_sem,simprocAttr,Tryz.f173,loopOf] at hB
  subst hB
  rw [RL_eq]
  simp -implicitDefEqProofs only [go_sem,simprocAttr,d]
  repeat' ((first | apply split_cond | apply split_yes | apply split_no)<;>intro hc<;>simp -implicitDefEqProofs only [hc,go_sem,simprocAttr,d])
 | q+1,j,i,Bo,hB,hi,hq=>by
  subst hi
  have hB':=hB
  have d:decide ((j:Int) < (s.length:Int))=true:=decide_eq_true (by omega)
  have h7:=next_id (i:=j) (n:=s.length) (by omega) (by omega)
  obtain ⟨b,hb⟩:=some_at (l:=s) (i:=j) (by omega)
  have hg:=byte_get hb
  have hx:=k_ofWord b (ha b (List.mem_of_getElem? hb))
  have ih:=l_isWord s hs ha ks q (j+1) _ Bo hB' rfl (by omega)
  unfold Loop at hB
  simp -implicitDefEqProofs only [go_sem,simprocAttr,Tryz.f173,loopOf] at hB
  subst hB
  rw [RL_eq]
  simp -implicitDefEqProofs only [go_sem,simprocAttr,d,h7,hg,hx]
  repeat' ((first | apply split_cond | apply split_yes | apply split_no)<;>intro hc<;>simp -implicitDefEqProofs only [hc,go_sem,simprocAttr,d,h7,hg,hx])
  rw [ih]
def Low (s:List UInt8):Prop:=s≠[]∧s.length≤40∧∀ b∈s,lowB b=true
theorem k_isTall (s:List UInt8) (h:Low s):R K (.call 87 [.str s] [])=some (.bool true,[]):=by
 obtain ⟨h0,h1,h2⟩:=h
 have lk:=fun ks B hB=>l_isWord s (by omega) h2 ks s.length 0 0 B hB rfl (by omega)
 have x:R K (.call 173 [.str s] [])=some (.bool true,[]):=by
  rw [call_173]
  simp -implicitDefEqProofs only [go_sem,simprocAttr,Tryz.f173]
  repeat' ((first | apply split_cond | apply split_yes | apply split_no)<;>intro hc<;>simp -implicitDefEqProofs only [hc,go_sem,simprocAttr])
  rw [lk _ _ (by rfl)]
  simp -implicitDefEqProofs only [go_sem,simprocAttr]
  repeat' ((first | apply split_cond | apply split_yes | apply split_no)<;>intro hc<;>simp -implicitDefEqProofs only [hc,go_sem,simprocAttr])
 cases s with
 | nil=>exact absurd rfl h0
 | cons c r =>
  have hc:=h2 c (by simp)
  simp only [lowB,Bool.and_eq_true,decide_eq_true_eq] at hc
  have hg:at? (c::r) (0:Int)=some c:=rfl
  have e0:((c::r:List UInt8)==[])=false:=rfl
  have e1:decide (((r.length+1:Nat):Int)≤40)=true:=decide_eq_true (by simp only [List.length_cons] at h1;omega)
  have d1:decide ((97:Int)≤(c.toNat:Int))=true:=decide_eq_true (by omega)
  have d2:decide ((c.toNat:Int)≤122)=true:=decide_eq_true (by omega)
  rw [call_87]
  simp -implicitDefEqProofs only [go_sem,simprocAttr,Tryz.f87,hg,e0,e1,d1,d2,x,bne]
  repeat' ((first | apply split_cond | apply split_yes | apply split_no)<;>intro hc<;>simp -implicitDefEqProofs only [hc,go_sem,simprocAttr,hg,e0,e1,d1,d2,x,bne])
theorem l_ixI1 (its:List (List AV)) (hl:its.length≤1000000) (ih:∀ x∈its,x.length=14∧R K (.call 166 [.agg x] [])=some (.bool false,[])) (fl:∀ x∈its,∃ nm c,x=.str nm::c∧Fl c) (ks:List It) :
  ∀ (m j:Nat) (i:Int) (Bo:Code),Loop Tryz.f174 0 Bo→i=(j:Int)→its.length=j+m →
  RL K (.run 174 0 (.code Bo::.lp Bo (some ([0,1,7,8],[])) 0::.blk 0 0::ks) [(0,.rows its),(1,.fn 166 []),(7,I (its.length:Int)),(8,I i)] [])=R K (.run 174 0 ks [] [])
 | 0,j,i,Bo,hB,hi,hj=>by
  subst hi
  have d:decide ((j:Int) < (its.length:Int))=false:=decide_eq_false (by omega)
  unfold Loop at hB
  simp -implicitDefEqProofs only [go_sem,simprocAttr,Tryz.f174,loopOf] at hB
  subst hB
  rw [RL_eq]
  simp -implicitDefEqProofs only [go_sem,simprocAttr,d]
  repeat' ((first | apply split_cond | apply split_yes | apply split_no)<;>intro hc<;>simp -implicitDefEqProofs only [hc,go_sem,simprocAttr,d])
 | m+1,j,i,Bo,hB,hi,hj=>by
  subst hi
  have hB':=hB
  have d:decide ((j:Int) < (its.length:Int))=true:=decide_eq_true (by omega)
  have h7:=next_id (i:=j) (n:=its.length) (by omega) (by omega)
  obtain ⟨x,hx⟩:=some_at (l:=its) (i:=j) (by omega)
  have hg:=at_get hx
  obtain ⟨nm,c,rfl,fx⟩:=fl x (List.mem_of_getElem? hx)
  have r:=(ih _ (List.mem_of_getElem? hx)).2
  have x1:=fx.len
  have xt:c.take 13=c:=by rw [←x1];exact List.take_length
  have z:=l_ixI1 its hl ih fl ks m (j+1) _ Bo hB' rfl (by omega)
  unfold Loop at hB
  simp -implicitDefEqProofs only [go_sem,simprocAttr,Tryz.f174,loopOf] at hB
  subst hB
  rw [RL_eq]
  simp -implicitDefEqProofs only [go_sem,simprocAttr,d,h7,hg,x1,xt,fx.locs,fx.one,fx.pure,r]
  repeat' ((first | apply split_cond | apply split_yes | apply split_no)<;>intro hc<;>simp -implicitDefEqProofs only [hc,go_sem,simprocAttr,d,h7,hg,x1,xt,fx.locs,fx.one,fx.pure,r])
  rw [z]
theorem c_noneI1 (its:List (List AV)) (hl:its.length≤1000000) (ih:∀ x∈its,x.length=14∧R K (.call 166 [.agg x] [])=some (.bool false,[])) (fl:∀ x∈its,∃ nm c,x=.str nm::c∧Fl c):R K (.call 88 [.rows its,.fn 166 []] [])=some (.bool false,[]):=by
 have lk:=fun ks B hB=>l_ixI1 its hl ih fl ks its.length 0 0 B hB rfl (by omega)
 have x:R K (.call 174 [.rows its,.fn 166 []] [])=some (I (-1),[]):=by
  rw [call_174]
  simp -implicitDefEqProofs only [go_sem,simprocAttr,Tryz.f174]
  repeat' ((first | apply split_cond | apply split_yes | apply split_no)<;>intro hc<;>simp -implicitDefEqProofs only [hc,go_sem,simprocAttr])
  rw [lk _ _ (by rfl)]
  simp -implicitDefEqProofs only [go_sem,simprocAttr]
  repeat' ((first | apply split_cond | apply split_yes | apply split_no)<;>intro hc<;>simp -implicitDefEqProofs only [hc,go_sem,simprocAttr])
 rw [call_88]
 simp -implicitDefEqProofs only [go_sem,simprocAttr,Tryz.f88,x]
 repeat' ((first | apply split_cond | apply split_yes | apply split_no)<;>intro hc<;>simp -implicitDefEqProofs only [hc,go_sem,simprocAttr,x])
theorem k_grp (nm:List UInt8) (c:List AV) (fc:Fl c) (h:NoAg 167 c):R K (.call 166 [.agg (.str nm::c)] [])=some (.bool false,[]):=by
 have x1:=fc.len
 have xt:c.take 13=c:=by rw [←x1];exact List.take_length
 have r:R K (.call 167 [.agg c] [])=some (.bool false,[]):=h
 rw [call_166]
 simp -implicitDefEqProofs only [go_sem,simprocAttr,Tryz.f166,x1,xt,fc.locs,fc.one,fc.pure,r]
 repeat' ((first | apply split_cond | apply split_yes | apply split_no)<;>intro hc<;>simp -implicitDefEqProofs only [hc,go_sem,simprocAttr,x1,xt,fc.locs,fc.one,fc.pure,r])
def ItO (nm:List UInt8) (y:List AV):Prop:=∃ n2 c2,y=.str n2::c2∧Fl c2∧n2≠nm
theorem k_nm1 (nm n2:List UInt8) (c c2:List AV) (fc:Fl c) (f2:Fl c2) (h:n2≠nm):R K (.call 89 [.agg (.str n2::c2),.ptr 0 0] [.cells (.str nm::c)])=some (.bool false,[.cells (.str nm::c)]):=by
 have d:(n2==nm)=false:=by simpa using h
 rw [call_89]
 simp -implicitDefEqProofs only [go_sem,simprocAttr,Tryz.f89,d,fc.locs,f2.locs,fc.ren,f2.ren,f2.one,fc.one]
 repeat' ((first | apply split_cond | apply split_yes | apply split_no)<;>intro hc<;>simp -implicitDefEqProofs only [hc,go_sem,simprocAttr,d,fc.locs,f2.locs,fc.ren,f2.ren,f2.one,fc.one])
theorem l_ixN1 (nm:List UInt8) (c:List AV) (fc:Fl c) (its:List (List AV)) (hl:its.length≤1000000) (ih:∀ y∈its,ItO nm y) (ks:List It) :
  ∀ (m j:Nat) (i:Int) (Bo:Code),Loop Tryz.f174 0 Bo→i=(j:Int)→its.length=j+m →
  RL K (.run 174 1 (.code Bo::.lp Bo (some ([0,1,7,8],[])) 1::.blk 0 1::ks) [(0,.rows its),(1,.fn 89 [.ptr 0 0]),(7,I (its.length:Int)),(8,I i)] [.cells (.str nm::c)])=R K (.run 174 1 ks [] [.cells (.str nm::c)])
 | 0,j,i,Bo,hB,hi,hj=>by
  subst hi
  have d:decide ((j:Int) < (its.length:Int))=false:=decide_eq_false (by omega)
  unfold Loop at hB
  simp -implicitDefEqProofs only [go_sem,simprocAttr,Tryz.f174,loopOf] at hB
  subst hB
  rw [RL_eq]
  simp -implicitDefEqProofs only [go_sem,simprocAttr,d,fc.locs]
  repeat' ((first | apply split_cond | apply split_yes | apply split_no)<;>intro hc<;>simp -implicitDefEqProofs only [hc,go_sem,simprocAttr,d,fc.locs])
 | m+1,j,i,Bo,hB,hi,hj=>by
  subst hi
  have hB':=hB
  have d:decide ((j:Int) < (its.length:Int))=true:=decide_eq_true (by omega)
  have h7:=next_id (i:=j) (n:=its.length) (by omega) (by omega)
  obtain ⟨x,hx⟩:=some_at (l:=its) (i:=j) (by omega)
  have hg:=at_get hx
  obtain ⟨n2,c2,rfl,f2,hn⟩:=ih x (List.mem_of_getElem? hx)
  have r:=k_nm1 nm n2 c c2 fc f2 hn
  have x1:=f2.len
  have x2:=fc.len
  have xt:c2.take 13=c2:=by rw [←x1];exact List.take_length
  have z:=l_ixN1 nm c fc its hl ih ks m (j+1) _ Bo hB' rfl (by omega)
  unfold Loop at hB
  simp -implicitDefEqProofs only [go_sem,simprocAttr,Tryz.f174,loopOf] at hB
  subst hB
  rw [RL_eq]
  simp -implicitDefEqProofs only [go_sem,simprocAttr,d,h7,hg,x1,x2,xt,f2.locs,f2.one,f2.pure,f2.ren,f2.conv,fc.locs,fc.ren,fc.conv,r]
  repeat' ((first | apply split_cond | apply split_yes | apply split_no)<;>intro hc<;>simp -implicitDefEqProofs only [hc,go_sem,simprocAttr,d,h7,hg,x1,x2,xt,f2.locs,f2.one,f2.pure,f2.ren,f2.conv,fc.locs,fc.ren,fc.conv,r])
  rw [z]
theorem c_noneN1 (nm:List UInt8) (c:List AV) (fc:Fl c) (its:List (List AV)) (hl:its.length≤1000000) (ih:∀ y∈its,ItO nm y):R K (.call 88 [.rows its,.fn 89 [.ptr 0 0]] [.cells (.str nm::c)])=some (.bool false,[.cells (.str nm::c)]):=by
 have lk:=fun ks B hB=>l_ixN1 nm c fc its hl ih ks its.length 0 0 B hB rfl (by omega)
 have x:R K (.call 174 [.rows its,.fn 89 [.ptr 0 0]] [.cells (.str nm::c)])=some (I (-1),[.cells (.str nm::c)]):=by
  rw [call_174]
  simp -implicitDefEqProofs only [go_sem,simprocAttr,Tryz.f174,fc.locs]
  repeat' ((first | apply split_cond | apply split_yes | apply split_no)<;>intro hc<;>simp -implicitDefEqProofs only [hc,go_sem,simprocAttr,fc.locs])
  rw [lk _ _ (by rfl)]
  simp -implicitDefEqProofs only [go_sem,simprocAttr,fc.locs]
  repeat' ((first | apply split_cond | apply split_yes | apply split_no)<;>intro hc<;>simp -implicitDefEqProofs only [hc,go_sem,simprocAttr,fc.locs])
 rw [call_88]
 simp -implicitDefEqProofs only [go_sem,simprocAttr,Tryz.f88,x,fc.locs,fc.ren]
 repeat' ((first | apply split_cond | apply split_yes | apply split_no)<;>intro hc<;>simp -implicitDefEqProofs only [hc,go_sem,simprocAttr,x,fc.locs,fc.ren])
theorem k_nm2 (nm n2:List UInt8) (c c2:List AV) (fc:Fl c) (f2:Fl c2) (h:n2≠nm):R K (.call 199 [.agg (.str n2::c2),.ptr 0 0] [.cells (.str nm::c)])=some (.bool false,[.cells (.str nm::c)]):=by
 have d:(n2==nm)=false:=by simpa using h
 rw [call_199]
 simp -implicitDefEqProofs only [go_sem,simprocAttr,Tryz.f199,d,fc.locs,f2.locs,fc.ren,f2.ren,f2.one,fc.one]
 repeat' ((first | apply split_cond | apply split_yes | apply split_no)<;>intro hc<;>simp -implicitDefEqProofs only [hc,go_sem,simprocAttr,d,fc.locs,f2.locs,fc.ren,f2.ren,f2.one,fc.one])
theorem l_ixN2 (nm:List UInt8) (c:List AV) (fc:Fl c) (its:List (List AV)) (hl:its.length≤1000000) (ih:∀ y∈its,ItO nm y) (ks:List It) :
  ∀ (m j:Nat) (i:Int) (Bo:Code),Loop Tryz.f174 0 Bo→i=(j:Int)→its.length=j+m →
  RL K (.run 174 1 (.code Bo::.lp Bo (some ([0,1,7,8],[])) 1::.blk 0 1::ks) [(0,.rows its),(1,.fn 199 [.ptr 0 0]),(7,I (its.length:Int)),(8,I i)] [.cells (.str nm::c)])=R K (.run 174 1 ks [] [.cells (.str nm::c)])
 | 0,j,i,Bo,hB,hi,hj=>by
  subst hi
  have d:decide ((j:Int) < (its.length:Int))=false:=decide_eq_false (by omega)
  unfold Loop at hB
  simp -implicitDefEqProofs only [go_sem,simprocAttr,Tryz.f174,loopOf] at hB
  subst hB
  rw [RL_eq]
  simp -implicitDefEqProofs only [go_sem,simprocAttr,d,fc.locs]
  repeat' ((first | apply split_cond | apply split_yes | apply split_no)<;>intro hc<;>simp -implicitDefEqProofs only [hc,go_sem,simprocAttr,d,fc.locs])
 | m+1,j,i,Bo,hB,hi,hj=>by
  subst hi
  have hB':=hB
  have d:decide ((j:Int) < (its.length:Int))=true:=decide_eq_true (by omega)
  have h7:=next_id (i:=j) (n:=its.length) (by omega) (by omega)
  obtain ⟨x,hx⟩:=some_at (l:=its) (i:=j) (by omega)
  have hg:=at_get hx
  obtain ⟨n2,c2,rfl,f2,hn⟩:=ih x (List.mem_of_getElem? hx)
  have r:=k_nm2 nm n2 c c2 fc f2 hn
  have x1:=f2.len
  have x2:=fc.len
  have xt:c2.take 13=c2:=by rw [←x1];exact List.take_length
  have z:=l_ixN2 nm c fc its hl ih ks m (j+1) _ Bo hB' rfl (by omega)
  unfold Loop at hB
  simp -implicitDefEqProofs only [go_sem,simprocAttr,Tryz.f174,loopOf] at hB
  subst hB
  rw [RL_eq]
  simp -implicitDefEqProofs only [go_sem,simprocAttr,d,h7,hg,x1,x2,xt,f2.locs,f2.one,f2.pure,f2.ren,f2.conv,fc.locs,fc.ren,fc.conv,r]
  repeat' ((first | apply split_cond | apply split_yes | apply split_no)<;>intro hc<;>simp -implicitDefEqProofs only [hc,go_sem,simprocAttr,d,h7,hg,x1,x2,xt,f2.locs,f2.one,f2.pure,f2.ren,f2.conv,fc.locs,fc.ren,fc.conv,r])
  rw [z]
theorem c_noneN2 (nm:List UInt8) (c:List AV) (fc:Fl c) (its:List (List AV)) (hl:its.length≤1000000) (ih:∀ y∈its,ItO nm y):R K (.call 88 [.rows its,.fn 199 [.ptr 0 0]] [.cells (.str nm::c)])=some (.bool false,[.cells (.str nm::c)]):=by
 have lk:=fun ks B hB=>l_ixN2 nm c fc its hl ih ks its.length 0 0 B hB rfl (by omega)
 have x:R K (.call 174 [.rows its,.fn 199 [.ptr 0 0]] [.cells (.str nm::c)])=some (I (-1),[.cells (.str nm::c)]):=by
  rw [call_174]
  simp -implicitDefEqProofs only [go_sem,simprocAttr,Tryz.f174,fc.locs]
  repeat' ((first | apply split_cond | apply split_yes | apply split_no)<;>intro hc<;>simp -implicitDefEqProofs only [hc,go_sem,simprocAttr,fc.locs])
  rw [lk _ _ (by rfl)]
  simp -implicitDefEqProofs only [go_sem,simprocAttr,fc.locs]
  repeat' ((first | apply split_cond | apply split_yes | apply split_no)<;>intro hc<;>simp -implicitDefEqProofs only [hc,go_sem,simprocAttr,fc.locs])
 rw [call_88]
 simp -implicitDefEqProofs only [go_sem,simprocAttr,Tryz.f88,x,fc.locs,fc.ren]
 repeat' ((first | apply split_cond | apply split_yes | apply split_no)<;>intro hc<;>simp -implicitDefEqProofs only [hc,go_sem,simprocAttr,x,fc.locs,fc.ren])
theorem k_loose (c:List AV) (fc:Fl c) (S:List AV) (qS:Qt S):R K (.call 85 [.agg c,.ptr 0 0,.ptr 1 0] [.cells [.bool false],.cells S])=some (.bool false,[.cells [.bool false],.cells S]):=by
 rw [call_85]
 simp -implicitDefEqProofs only [go_sem,simprocAttr,Tryz.f85,fc.locs,fc.ren,fc.one,qS.locs,qS.ren]
 repeat' ((first | apply split_cond | apply split_yes | apply split_no)<;>intro hc<;>simp -implicitDefEqProofs only [hc,go_sem,simprocAttr,fc.locs,fc.ren,fc.one,qS.locs,qS.ren])
theorem k_win1:R K (.call 31 [I (-1),I (-1),I 999999999999999] [])=some (.bool true,[]):=R_of_runN (n:=60) (by kernel_rfl)
theorem k_win2:R K (.call 31 [I 0,I 0,I 999999999999999] [])=some (.bool true,[]):=R_of_runN (n:=60) (by kernel_rfl)
theorem k_qform (its:List (List AV)) (h0:its.length≠0):R K (.call 80 [.agg (selX its)] [])=some (I 0,[]):=by
 have d:(((its.length:Nat):Int)==0)=false:=by simpa using h0
 rw [call_80]
 simp -implicitDefEqProofs only [go_sem,simprocAttr,Tryz.f80,k_win1,k_win2,d]
 repeat' ((first | apply split_cond | apply split_yes | apply split_no)<;>intro hc<;>simp -implicitDefEqProofs only [hc,go_sem,simprocAttr,k_win1,k_win2,d])
theorem q_sel (its:List (List AV)):Qt (selX its):=⟨rfl,fun _=>rfl⟩
theorem k_srcs (its:List (List AV)) (A B:List AV) (qA:Qt A) (qB:Qt B):R K (.call 81 [.ptr 0 0,.agg (selX its),.ptr 1 0] [.cells A,.cells B])=some (I 0,[.cells A,.cells B]):=by
 rw [call_81]
 simp -implicitDefEqProofs only [go_sem,simprocAttr,Tryz.f81,qA.locs,qB.locs]
 repeat' ((first | apply split_cond | apply split_yes | apply split_no)<;>intro hc<;>simp -implicitDefEqProofs only [hc,go_sem,simprocAttr,qA.locs,qB.locs])
 rw [RL_eq]
 simp -implicitDefEqProofs only [go_sem,simprocAttr,qA.locs,qB.locs,qA.ren,qB.ren]
 repeat' ((first | apply split_cond | apply split_yes | apply split_no)<;>intro hc<;>simp -implicitDefEqProofs only [hc,go_sem,simprocAttr,qA.locs,qB.locs,qA.ren,qB.ren])
 rw [RL_eq]
 simp -implicitDefEqProofs only [go_sem,simprocAttr,qA.locs,qB.locs,qA.ren,qB.ren]
 repeat' ((first | apply split_cond | apply split_yes | apply split_no)<;>intro hc<;>simp -implicitDefEqProofs only [hc,go_sem,simprocAttr,qA.locs,qB.locs,qA.ren,qB.ren])
theorem k_conds (w1:Bool) (A B:List AV) (qA:Qt A) (qB:Qt B):R K (.call 82 [.ptr 0 0,.rows [],.ptr 1 0,.agg [.bool w1,.bool false,.bool false]] [.cells A,.cells B])=some (I 0,[.cells A,.cells B]):=by
 rw [call_82]
 simp -implicitDefEqProofs only [go_sem,simprocAttr,Tryz.f82,qA.locs,qB.locs]
 repeat' ((first | apply split_cond | apply split_yes | apply split_no)<;>intro hc<;>simp -implicitDefEqProofs only [hc,go_sem,simprocAttr,qA.locs,qB.locs])
 rw [RL_eq]
 simp -implicitDefEqProofs only [go_sem,simprocAttr,qA.locs,qB.locs,qA.ren,qB.ren]
 repeat' ((first | apply split_cond | apply split_yes | apply split_no)<;>intro hc<;>simp -implicitDefEqProofs only [hc,go_sem,simprocAttr,qA.locs,qB.locs,qA.ren,qB.ren])
theorem k_no1:R K (.call 91 [.rows [],.fn 168 []] [])=some (.bool false,[]):=R_of_runN (n:=80) (by kernel_rfl)
theorem k_no2:R K (.call 169 [.rows [],.fn 167 []] [])=some (.bool false,[]):=R_of_runN (n:=80) (by kernel_rfl)
theorem k_no3:R K (.call 170 [.rows [],.fn 171 []] [])=some (.bool false,[]):=R_of_runN (n:=80) (by kernel_rfl)
theorem k_grouped (its:List (List AV)) (hl:its.length≤1000000) (fl:∀ x∈its,∃ nm c,x=.str nm::c∧Fl c∧NoAg 167 c):R K (.call 84 [.agg (selX its)] [])=some (.bool false,[]):=by
 have x:=c_noneI1 its hl (fun x hx=>by
  obtain ⟨nm,c,rfl,fc,h⟩:=fl x hx
  exact ⟨by simp [fc.len],k_grp nm c fc h⟩) (fun x hx=>by
  obtain ⟨nm,c,e,fc,_⟩:=fl x hx
  exact ⟨nm,c,e,fc⟩)
 rw [call_84]
 simp -implicitDefEqProofs only [go_sem,simprocAttr,Tryz.f84,x,k_no1,k_no2,k_no3]
 repeat' ((first | apply split_cond | apply split_yes | apply split_no)<;>intro hc<;>simp -implicitDefEqProofs only [hc,go_sem,simprocAttr,x,k_no1,k_no2,k_no3])
def ItP (x:List AV):Prop:=∃ nm c k,x=.str nm::c∧Low nm∧ChP c k∧NoAg 167 c
def Uniq (its:List (List AV)):Prop:=∀ (j:Nat) (nm:List UInt8) (c:List AV),its[j]? = some (.str nm::c)→∀ y∈its.take j,ItO nm y
theorem allLen_of {w:Nat}:∀ {l:List (List AV)},(∀ x∈l,x.length=w)→allLen w l=true
 | [],_=>rfl
 | x::l,h=>by
  have h1:=h x (by simp)
  have h2:=allLen_of (l:=l) (fun y hy=>h y (by simp [hy]))
  simp [allLen,h1] at h2 ⊢
  try exact h2
theorem l_query (its:List (List AV)) (hl:its.length≤1000000) (ih:∀ x∈its,ItP x) (hu:Uniq its) (A:List AV) (qA:Qt A):∀ (m j:Nat) (R0:List (List AV)),its.length=j+m→R0.length=j→locsR R0=[]→∃ R1:List (List AV),locsR R1=[]∧R1.length=its.length∧∀ (i:Int) (Bo:Code) (ks:List It),i=(j:Int)→Loop Tryz.f39 2 Bo →
  RL K (.run 39 1 (.code Bo::.lp Bo (some ([0,4,9,15,19,20,92,93,94],[])) 6::.blk 2 6::ks) [(0,.ptr 0 0),(4,.ptr 1 0),(9,.ptr 2 0),(15,.fn 85 [.ptr 3 0,.ptr 1 0]),(19,.ptr 4 0),(20,.own 5 j),(92,.rows its),(93,I (its.length:Int)),(94,I i)]
   [.cells A,.cells (selX its),.cells [.nilp,.nils],.cells [.bool false],.cells [.bool true,.bool true,.bool false],.rows 3 R0 false]) =
  R K (.run 39 1 ks [(0,.ptr 0 0),(4,.ptr 1 0),(9,.ptr 2 0),(15,.fn 85 [.ptr 3 0,.ptr 1 0]),(19,.ptr 4 0),(20,.own 5 its.length)] [.cells A,.cells (selX its),.cells [.nilp,.nils],.cells [.bool false],.cells [.bool true,.bool true,.bool false],.rows 3 R1 false])
 | 0,j,R0,hj,hR,hL=>by
  refine ⟨R0,hL,by omega,fun i Bo ks hi hB=>?_⟩
  subst hi
  have ej:its.length=j:=by omega
  have d:decide ((j:Int) < (j:Int))=false:=decide_eq_false (by omega)
  have qS:=q_sel its
  rw [ej]
  unfold Loop at hB
  simp -implicitDefEqProofs only [go_sem,simprocAttr,Tryz.f39,loopOf] at hB
  subst hB
  rw [RL_eq]
  simp -implicitDefEqProofs only [go_sem,simprocAttr,d,qA.locs,hL]
  repeat' ((first | apply split_cond | apply split_yes | apply split_no)<;>intro hc<;>simp -implicitDefEqProofs only [hc,go_sem,simprocAttr,d,qA.locs,hL])
 | m+1,j,R0,hj,hR,hL=>by
  obtain ⟨x,hx⟩:=some_at (l:=its) (i:=j) (by omega)
  obtain ⟨nm,c,kd,rfl,hnm,⟨fc,hch⟩,_⟩:=ih x (List.mem_of_getElem? hx)
  have hL':locsR (R0++[[.str [],.str nm,I kd]])=[]:=by rw [locsR_ap2,hL];rfl
  obtain ⟨R1,h1,h2,z⟩:=l_query its hl ih hu A qA m (j+1) (R0++[[.str [],.str nm,I kd]]) (by omega) (by rw [List.length_append];simp [hR]) hL'
  refine ⟨R1,h1,h2,fun i Bo ks hi hB=>?_⟩
  subst hi
  have hB':=hB
  have d:decide ((j:Int) < (its.length:Int))=true:=decide_eq_true (by omega)
  have h7:=next_id (i:=j) (n:=its.length) (by omega) (by omega)
  have hg:=at_get hx
  have x1:=fc.len
  have xt:c.take 13=c:=by rw [←x1];exact List.take_length
  have room:((j+1)*41≤roomMax)=True:=eq_true (by unfold roomMax;omega)
  have cs:((0:Int)≤(j:Int)∧(j:Int)≤(its.length:Int))=True:=eq_true (by omega)
  have hA:allLen 14 its=true:=allLen_of (fun x hx=>by
   obtain ⟨n2,c2,k2,rfl,_,⟨f2,_⟩,_⟩:=ih x hx
   simp [f2.len])
  have y1:=k_isTall nm hnm
  have y2:=c_noneN1 nm c fc (its.take j) (by rw [List.length_take];omega) (hu j nm c hx)
  have y3:=k_loose c fc (selX its) (q_sel its)
  have y4:=hch A [.nilp,.nils] true true qA ⟨rfl,fun _=>rfl⟩
  have z:=z _ Bo ks rfl hB'
  unfold Loop at hB
  simp -implicitDefEqProofs only [go_sem,simprocAttr,Tryz.f39,loopOf] at hB
  subst hB
  rw [RL_eq]
  simp -implicitDefEqProofs only [go_sem,simprocAttr,d,h7,hg,x1,xt,qA.locs,qA.ren,fc.locs,fc.one,fc.conv,fc.ren,fc.pure,y1,y2,y3,y4,hR,room,hL',under,cs,hA,Int.toNat_natCast,Nat.sub_zero,List.drop_zero]
  repeat' ((first | apply split_cond | apply split_yes | apply split_no)<;>intro hc<;>simp -implicitDefEqProofs only [hc,go_sem,simprocAttr,d,h7,hg,x1,xt,qA.locs,qA.ren,fc.locs,fc.one,fc.conv,fc.ren,fc.pure,y1,y2,y3,y4,hR,room,hL',under,cs,hA,Int.toNat_natCast,Nat.sub_zero,List.drop_zero])
  rw [z]
theorem c_query (its:List (List AV)) (h0:its.length≠0) (hl:its.length≤1000000) (ih:∀ x∈its,ItP x) (hu:Uniq its) (A:List AV) (qA:Qt A):∃ R1:List (List AV),R K (.call 39 [.ptr 0 0,.agg (selX its),.nilp] [.cells A])=some (.tup [.rows R1,I 0],[.cells A]):=by
 obtain ⟨R1,hR,hn,z⟩:=l_query its hl ih hu A qA its.length 0 [] (by omega) rfl rfl
 refine ⟨R1,?_⟩
 have z:=fun Bo ks hB=>z 0 Bo ks rfl hB
 have x1:=k_qform its h0
 have qB:Qt [.nilp,.nils]:=⟨rfl,fun _=>rfl⟩
 have x2:=k_srcs its A [.nilp,.nils] qA qB
 have x3:=k_conds false A [.nilp,.nils] qA qB
 have x3':=k_conds true A [.nilp,.nils] qA qB
 have x4:=c_chE [] (by simp) 2 (by simp) A [.nilp,.nils] false false qA qB
 rw [show List.replicate ([]:List (List AV)).length [I 2]=[] from rfl] at x4
 have x5:=k_grouped its hl (fun x hx=>by
  obtain ⟨nm,c,k,e,_,⟨fc,_⟩,hn⟩:=ih x hx
  exact ⟨nm,c,e,fc,hn⟩)
 rw [call_39]
 simp -implicitDefEqProofs only [go_sem,simprocAttr,Tryz.f39,x1,x2,x3,x3',x4,x5,qA.locs,qA.ren]
 repeat' ((first | apply split_cond | apply split_yes | apply split_no)<;>intro hc<;>simp -implicitDefEqProofs only [hc,go_sem,simprocAttr,x1,x2,x3,x3',x4,x5,qA.locs,qA.ren])
 rw [RL_eq]
 simp -implicitDefEqProofs only [go_sem,simprocAttr,x1,x2,x3,x3',x4,x5,qA.locs,qA.ren]
 repeat' ((first | apply split_cond | apply split_yes | apply split_no)<;>intro hc<;>simp -implicitDefEqProofs only [hc,go_sem,simprocAttr,x1,x2,x3,x3',x4,x5,qA.locs,qA.ren])
 rw [z _ _ (by rfl)]
 simp -implicitDefEqProofs only [go_sem,simprocAttr,qA.locs,qA.ren]
 repeat' ((first | apply split_cond | apply split_yes | apply split_no)<;>intro hc<;>simp -implicitDefEqProofs only [hc,go_sem,simprocAttr,qA.locs,qA.ren])
 rw [RL_eq]
 simp -implicitDefEqProofs only [go_sem,simprocAttr,qA.locs,qA.ren,hR,hn,or_self,and_true,if_true]
 repeat' ((first | apply split_cond | apply split_yes | apply split_no)<;>intro hc<;>simp -implicitDefEqProofs only [hc,go_sem,simprocAttr,qA.locs,qA.ren,hR,hn,or_self,and_true,if_true])
theorem k_schema:R K (.call 36 [smallX] [])=some (I 0,[]):=R_of_runN (n:=8000) (by kernel_rfl)
theorem k_win3:R K (.call 31 [I 1,I 1,I 4] [])=some (.bool true,[]):=R_of_runN (n:=60) (by kernel_rfl)
theorem k_win4:R K (.call 31 [I 2,I 1,I 4] [])=some (.bool true,[]):=R_of_runN (n:=60) (by kernel_rfl)
theorem k_stForm (ps its:List (List AV)):R K (.call 38 [stX ps its] [])=some (.bool true,[]):=by
 rw [call_38]
 simp -implicitDefEqProofs only [go_sem,simprocAttr,Tryz.f38,beq_self_eq_true,bne]
 repeat' ((first | apply split_cond | apply split_yes | apply split_no)<;>intro hc<;>simp -implicitDefEqProofs only [hc,go_sem,simprocAttr,beq_self_eq_true,bne])
theorem l_check (n:Nat) (hn:n≤1000000) (its:List (List AV)) (S:List AV) (qS:Qt S) (ks:List It):∀ (m j:Nat) (i:Int) (Bo:Code),Loop Tryz.f24 1 Bo→i=(j:Int)→n=j+m →
  RL K (.run 24 0 (.code Bo::.lp Bo (some ([2,3,30,31,32],[])) 2::.blk 1 2::ks) [(2,.ptr 0 0),(3,.ptr 1 0),(30,.rows (twos n)),(31,I (n:Int)),(32,I i)] [.cells S,.cells [I 1,.rows (twos n),.rows [selX its],.str [],.str [],.rows [],.rows [],.rows [],.rows []]]) =
  R K (.run 24 0 ks [(2,.ptr 0 0),(3,.ptr 1 0)] [.cells S,.cells [I 1,.rows (twos n),.rows [selX its],.str [],.str [],.rows [],.rows [],.rows [],.rows []]])
 | 0,j,i,Bo,hB,hi,hj=>by
  subst hi
  have d:decide ((j:Int) < (n:Int))=false:=decide_eq_false (by omega)
  unfold Loop at hB
  simp -implicitDefEqProofs only [go_sem,simprocAttr,Tryz.f24,loopOf] at hB
  subst hB
  rw [RL_eq]
  simp -implicitDefEqProofs only [go_sem,simprocAttr,d,qS.locs]
  repeat' ((first | apply split_cond | apply split_yes | apply split_no)<;>intro hc<;>simp -implicitDefEqProofs only [hc,go_sem,simprocAttr,d,qS.locs])
 | m+1,j,i,Bo,hB,hi,hj=>by
  subst hi
  have hB':=hB
  have d:decide ((j:Int) < (n:Int))=true:=decide_eq_true (by omega)
  have h7:=next_id (i:=j) (n:=n) (by omega) (by omega)
  have hg:=twos_at (n:=n) (j:=j) (by omega)
  have ih:=l_check n hn its S qS ks m (j+1) _ Bo hB' rfl (by omega)
  unfold Loop at hB
  simp -implicitDefEqProofs only [go_sem,simprocAttr,Tryz.f24,loopOf] at hB
  subst hB
  rw [RL_eq]
  simp -implicitDefEqProofs only [go_sem,simprocAttr,d,h7,hg,k_win4,qS.locs]
  repeat' ((first | apply split_cond | apply split_yes | apply split_no)<;>intro hc<;>simp -implicitDefEqProofs only [hc,go_sem,simprocAttr,d,h7,hg,k_win4,qS.locs])
  rw [ih]
abbrev smallC:List AV:=[.rows [[.str [97],.lit [[.str [105,100],I 2,.bool false,I 0,I 0,.str []]],.lit [[.str [105,100]]],.nils,.nils]]]
theorem c_Check_large (n:Nat) (its:List (List AV)) (h:R K (.call 37 [stX (twos n) its] [])=some (.bool false,[])):R K (.call 12 [smallX,stX (twos n) its] [])=some (I 2,[]):=by
 have ks:=k_schema
 have x:R K (.call 24 [smallX,stX (twos n) its] [])=some (.tup [.rows [],I 2],[]):=by
  rw [call_24]
  simp -implicitDefEqProofs only [go_sem,simprocAttr,Tryz.f24,ks,h]
  repeat' ((first | apply split_cond | apply split_yes | apply split_no)<;>intro hc<;>simp -implicitDefEqProofs only [hc,go_sem,simprocAttr,ks,h])
 rw [call_12]
 simp -implicitDefEqProofs only [go_sem,simprocAttr,Tryz.f12,x]
 repeat' ((first | apply split_cond | apply split_yes | apply split_no)<;>intro hc<;>simp -implicitDefEqProofs only [hc,go_sem,simprocAttr,x])
theorem c_Check_ok (n:Nat) (hn:n≤1000000) (its:List (List AV)) (h0:its.length≠0) (hl:its.length≤1000000) (ih:∀ x∈its,ItP x) (hu:Uniq its) (h:R K (.call 37 [stX (twos n) its] [])=some (.bool true,[])):R K (.call 12 [smallX,stX (twos n) its] [])=some (I 0,[]):=by
 have ks:=k_schema
 have qS:Qt smallC:=⟨rfl,fun _=>rfl⟩
 have lk:=fun Bo ks hB=>l_check n hn its smallC qS ks n 0 0 Bo hB rfl (by omega)
 obtain ⟨R1,y⟩:=c_query its h0 hl ih hu (smallC++[.rows (twos n)]) ⟨rfl,fun _=>rfl⟩
 simp only [smallC,List.cons_append,List.nil_append] at y
 have w:=k_stForm (twos n) its
 have x:R K (.call 24 [smallX,stX (twos n) its] [])=some (.tup [.rows R1,I 0],[]):=by
  rw [call_24]
  simp -implicitDefEqProofs only [go_sem,simprocAttr,Tryz.f24,ks,h,w,k_win3,List.length_replicate]
  repeat' ((first | apply split_cond | apply split_yes | apply split_no)<;>intro hc<;>simp -implicitDefEqProofs only [hc,go_sem,simprocAttr,ks,h,w,k_win3,List.length_replicate])
  rw [lk _ _ (by rfl)]
  simp -implicitDefEqProofs only [go_sem,simprocAttr,y]
  repeat' ((first | apply split_cond | apply split_yes | apply split_no)<;>intro hc<;>simp -implicitDefEqProofs only [hc,go_sem,simprocAttr,y])
 rw [call_12]
 simp -implicitDefEqProofs only [go_sem,simprocAttr,Tryz.f12,x]
 repeat' ((first | apply split_cond | apply split_yes | apply split_no)<;>intro hc<;>simp -implicitDefEqProofs only [hc,go_sem,simprocAttr,x])
abbrev zeroE:List AV:=[I 0,I 0,I 0,I 0,I 0,.str [],.str [],.str [],.bool false,.nils,.nils,.nils,.nils]
theorem lR_zero (n:Nat):locsR (List.replicate n zeroE)=[]:=by
 induction n with
 | zero=>rfl
 | succ n ih=>rw [List.replicate_succ,locsR,ih];rfl
theorem rR_zero (n:Nat) (σ:Nat→Nat):renR σ (List.replicate n zeroE)=List.replicate n zeroE:=by
 induction n with
 | zero=>rfl
 | succ n ih=>rw [List.replicate_succ,renR,ih];rfl
theorem k_grow (n:Nat) (h0:0 < n) (hn:n≤1000000):R K (.call 190 [.nils,I (n:Int)] [])=some (.vw 0 n 0 0,[.rows 13 (List.replicate n zeroE) true]):=by
 have d:decide ((n:Int) < 0)=false:=decide_eq_false (by omega)
 have d1:decide ((0:Int) < (n:Int))=true:=decide_eq_true (by omega)
 have w:wrapI .i64 (n:Int)=n:=wrap_id (by omega) (by omega)
 have e:(n:Int) - 0=n:=by omega
 have rm:((0:Int) < (n:Int)∧(n:Int)*193≤(roomMax:Int))=True:=eq_true (by unfold roomMax;omega)
 have nn:((0:Int)≤(n:Int))=True:=eq_true (by omega)
 rw [call_190]
 simp -implicitDefEqProofs only [go_sem,simprocAttr,Tryz.f190,d,d1,w,e,rm,Int.toNat_natCast,List.length_replicate,lR_zero,rR_zero,nn,Int.toNat_zero,Nat.sub_zero]
 repeat' ((first | apply split_cond | apply split_yes | apply split_no)<;>intro hc<;>simp -implicitDefEqProofs only [hc,go_sem,simprocAttr,d,d1,w,e,rm,Int.toNat_natCast,List.length_replicate,lR_zero,rR_zero,nn,Int.toNat_zero,Nat.sub_zero])
theorem locsR_of:∀ {l:List (List AV)},(∀ x∈l,locsL x=[])→locsR l=[]
 | [],_=>rfl
 | x::l,h=>by rw [locsR,h x (by simp),locsR_of (fun y hy=>h y (by simp [hy]))];rfl
theorem c_cat (args:List (List AV)) (hl:args.length≤1000000) (h0:0 < args.length) (fl:∀ x∈args,Fl x):R K (.call 103 [.rows [[.rows args],[.rows []]]] [])=some (.rows args,[]):=by
 have d:decide ((args.length:Int) < 0)=false:=decide_eq_false (by omega)
 have w0:wrapI .i64 (0+(args.length:Int))=args.length:=by rw [wrap_id (by omega) (by omega)];omega
 have w1:wrapI .i64 ((args.length:Int)+0)=args.length:=by rw [wrap_id (by omega) (by omega)];omega
 have w2:wrapI .i64 (args.length:Int)=args.length:=wrap_id (by omega) (by omega)
 have g:=k_grow args.length h0 hl
 have hA:allLen 13 args=true:=allLen_of (fun x hx=>(fl x hx).len)
 have dz:List.drop args.length (List.replicate args.length zeroE)=[]:=List.drop_of_length_le (by rw [List.length_replicate];exact Nat.le_refl _)
 have hp:(0 < args.length)=True:=eq_true h0
 have lA:locsR args=[]:=locsR_of (fun x hx=>(fl x hx).locs)
 rw [call_103]
 simp -implicitDefEqProofs only [go_sem,simprocAttr,Tryz.f103]
 repeat' ((first | apply split_cond | apply split_yes | apply split_no)<;>intro hc<;>simp -implicitDefEqProofs only [hc,go_sem,simprocAttr])
 rw [RL_eq]
 simp -implicitDefEqProofs only [go_sem,simprocAttr,d,w0,w1,w2]
 repeat' ((first | apply split_cond | apply split_yes | apply split_no)<;>intro hc<;>simp -implicitDefEqProofs only [hc,go_sem,simprocAttr,d,w0,w1,w2])
 rw [RL_eq]
 simp -implicitDefEqProofs only [go_sem,simprocAttr,d,w0,w1,w2]
 repeat' ((first | apply split_cond | apply split_yes | apply split_no)<;>intro hc<;>simp -implicitDefEqProofs only [hc,go_sem,simprocAttr,d,w0,w1,w2])
 rw [RL_eq]
 simp -implicitDefEqProofs only [go_sem,simprocAttr,d,w0,w1,w2,g,rR_zero,lR_zero]
 repeat' ((first | apply split_cond | apply split_yes | apply split_no)<;>intro hc<;>simp -implicitDefEqProofs only [hc,go_sem,simprocAttr,d,w0,w1,w2,g,rR_zero,lR_zero])
 rw [RL_eq]
 simp -implicitDefEqProofs only [go_sem,simprocAttr,w0,w1,w2,rR_zero,lR_zero,hA,hp,dz,List.append_nil,lA]
 repeat' ((first | apply split_cond | apply split_yes | apply split_no)<;>intro hc<;>simp -implicitDefEqProofs only [hc,go_sem,simprocAttr,w0,w1,w2,rR_zero,lR_zero,hA,hp,dz,List.append_nil,lA])
 rw [RL_eq]
 simp -implicitDefEqProofs only [go_sem,simprocAttr,w0,w1,w2,rR_zero,lR_zero,hA,hp,dz,List.append_nil,lA,List.drop_length]
 repeat' ((first | apply split_cond | apply split_yes | apply split_no)<;>intro hc<;>simp -implicitDefEqProofs only [hc,go_sem,simprocAttr,w0,w1,w2,rR_zero,lR_zero,hA,hp,dz,List.append_nil,lA,List.drop_length])
 rw [RL_eq]
 simp -implicitDefEqProofs only [go_sem,simprocAttr,lA,List.take_length,List.drop_zero,Nat.sub_zero,true_or,or_true,if_true,and_true]
 repeat' ((first | apply split_cond | apply split_yes | apply split_no)<;>intro hc<;>simp -implicitDefEqProofs only [hc,go_sem,simprocAttr,lA,List.take_length,List.drop_zero,Nat.sub_zero,true_or,or_true,if_true,and_true])
theorem c_cat0:R K (.call 103 [.rows [[.rows []],[.rows []]]] [])=some (.rows [],[]):=R_of_runN (n:=200) (by kernel_rfl)
theorem c_cat3:R K (.call 103 [.rows [[.rows []],[.rows []],[.rows []]]] [])=some (.rows [],[]):=R_of_runN (n:=300) (by kernel_rfl)
theorem r_at (C D L:Int) (b:Bool) (hC:0≤C) (hC2:C≤1000000):R K (.call 188 [.ptr 0 0,I L] (ZH C D b))=some (.tup [],ZH (C+1) (mxI D L) b):=by
 have e1:wrapI .i64 (C+1)=C+1:=wrap_id (by omega) (by omega)
 rw [call_188]
 simp -implicitDefEqProofs only [go_sem,simprocAttr,Tryz.f188,ZH,e1]
 repeat' ((first | apply split_cond | apply split_yes | apply split_no)<;>intro hc<;>simp -implicitDefEqProofs only [hc,go_sem,simprocAttr,ZH,e1])
def SzR (c:List AV) (m d:Nat):Prop:=Fl c∧∀ (C D L:Int) (b:Bool),0≤C→C+(m:Int)≤900000→0≤L→L+(d:Int)≤900000→R K (.call 102 [.ptr 0 0,.agg c,I L] (ZH C D b))=some (.tup [],ZH (C+(m:Int)) (mxI D (L+(d:Int))) b)
theorem mxI_mxI (D a b:Int) (h:a≤b):mxI (mxI D a) b=mxI D b:=by
 unfold mxI
 split<;>split<;>(try split)<;>omega
theorem l_szR (args:List (List AV)) (hl:args.length≤1000000) (m d:Nat) (ih:∀ a∈args,SzR a m d) (S:List AV) (qS:Qt S) (L:Int) (h2:0≤L) (h3:args.length≠0→L+1+(d:Int)≤900000) (b:Bool):∀ (k j:Nat) (C D:Int),args.length=j+k→0≤C→C+((k*m:Nat):Int)≤900000→∀ (ks:List It) (Bo:Code) (i:Int),Loop Tryz.f102 0 Bo→i=(j:Int) →
  RL K (.run 102 1 (.code Bo::.lp Bo (some ([0,2,4,20,21,22],[])) 2::.blk 0 2::ks) [(0,.ptr 0 0),(2,I L),(4,.ptr 1 0),(20,.rows args),(21,I (args.length:Int)),(22,I i)] (ZH C D b++[.cells S])) =
  R K (.run 102 1 ks [(0,.ptr 0 0),(2,I L),(4,.ptr 1 0)] (ZH (C+((k*m:Nat):Int)) (if k=0 then D else mxI D (L+1+(d:Int))) b++[.cells S]))
 | 0,j,C,D,hj,h0,h1,ks,Bo,i,hB,hi=>by
  subst hi
  have dd:decide ((j:Int) < (args.length:Int))=false:=decide_eq_false (by omega)
  rw [show C+((0*m:Nat):Int)=C by simp,if_pos rfl]
  simp only [ZH,List.cons_append,List.nil_append]
  unfold Loop at hB
  simp -implicitDefEqProofs only [go_sem,simprocAttr,Tryz.f102,loopOf] at hB
  subst hB
  rw [RL_eq]
  simp -implicitDefEqProofs only [go_sem,simprocAttr,dd,qS.locs]
  repeat' ((first | apply split_cond | apply split_yes | apply split_no)<;>intro hc<;>simp -implicitDefEqProofs only [hc,go_sem,simprocAttr,dd,qS.locs])
 | k+1,j,C,D,hj,h0,h1,ks,Bo,i,hB,hi=>by
  subst hi
  have hk:((k+1)*m:Nat)=k*m+m:=Nat.succ_mul k m
  rw [hk] at h1 ⊢
  obtain ⟨x,hx⟩:=some_at (l:=args) (i:=j) (by omega)
  obtain ⟨fx,sx⟩:=ih x (List.mem_of_getElem? hx)
  have h3':=h3 (by omega)
  have r:=sx C D (L+1) b h0 (by omega) (by omega) (by omega)
  have z:=l_szR args hl m d ih S qS L h2 h3 b k (j+1) (C+(m:Int)) (mxI D (L+1+(d:Int))) (by omega) (by omega) (by omega) ks Bo _ hB rfl
  have e1:(if k=0 then mxI D (L+1+(d:Int)) else mxI (mxI D (L+1+(d:Int))) (L+1+(d:Int)))=mxI D (L+1+(d:Int)):=by
   split
   ·rfl
   ·exact mxI_mxI _ _ _ (Int.le_refl _)
  have e2:C+(m:Int)+((k*m:Nat):Int)=C+((k*m+m:Nat):Int):=by omega
  rw [e1,e2] at z
  rw [if_neg (by omega)]
  have hB':=hB
  have dd:decide ((j:Int) < (args.length:Int))=true:=decide_eq_true (by omega)
  have h7:=next_id (i:=j) (n:=args.length) (by omega) (by omega)
  have hg:=at_get hx
  have x1:=fx.len
  have xt:x.take 13=x:=by rw [←x1];exact List.take_length
  have w:wrapI .i64 (L+1)=L+1:=wrap_id (by omega) (by omega)
  obtain ⟨X,hX⟩:∃ X,X=mxI D (L+1+(d:Int)):=⟨_,rfl⟩
  rw [←hX] at r z ⊢
  simp only [ZH,List.cons_append,List.nil_append] at r z ⊢
  unfold Loop at hB
  simp -implicitDefEqProofs only [go_sem,simprocAttr,Tryz.f102,loopOf] at hB
  subst hB
  rw [RL_eq]
  simp -implicitDefEqProofs only [go_sem,simprocAttr,dd,h7,hg,x1,xt,w,qS.locs,qS.ren,fx.locs,fx.one,fx.conv,fx.ren,fx.pure,r]
  repeat' ((first | apply split_cond | apply split_yes | apply split_no)<;>intro hc<;>simp -implicitDefEqProofs only [hc,go_sem,simprocAttr,dd,h7,hg,x1,xt,w,qS.locs,qS.ren,fx.locs,fx.one,fx.conv,fx.ren,fx.pure,r])
  rw [z]
theorem r_szX (k op vk vn:Int) (args:List (List AV)) (hl:args.length≤1000000) (m d D0:Nat) (ih:∀ a∈args,SzR a m d) (hD:(args.length=0→D0=0)∧(args.length≠0→D0=d+1)):SzR (nd k op vk vn args) (1+args.length*m) D0:=by
 refine ⟨nd_fl _ _ _ _ _,fun C D L b h0 h1 h2 h3=>?_⟩
 have qS:Qt (nd k op vk vn args):=⟨rfl,fun _=>rfl⟩
 have x:=r_at C D L b h0 (by omega)
 have cat:R K (.call 103 [.rows [[.rows args],[.rows []]]] [])=some (.rows args,[]):=by
  by_cases h:args.length=0
  ·obtain rfl:args=[]:=List.length_eq_zero_iff.1 h
   exact c_cat0
  ·exact c_cat args hl (by omega) (fun x hx=>(ih x hx).1)
 have z:=fun ks Bo hB=>l_szR args hl m d ih (nd k op vk vn args) qS L h2 (fun h=>by have:=hD.2 h;omega) b args.length 0 (C+1) (mxI D L) (by omega) (by omega) (by omega) ks Bo 0 hB rfl
 have e1:C+1+((args.length*m:Nat):Int)=C+((1+args.length*m:Nat):Int):=by omega
 have e2:(if args.length=0 then mxI D L else mxI (mxI D L) (L+1+(d:Int)))=mxI D (L+(D0:Int)):=by
  split
  ·rename_i h
   rw [hD.1 h];simp
  ·rename_i h
   rw [mxI_mxI _ _ _ (by omega),hD.2 h]
   congr 1;omega
 rw [e1,e2] at z
 obtain ⟨X,hX⟩:∃ X,X=mxI D (L+(D0:Int)):=⟨_,rfl⟩
 obtain ⟨Y,hY⟩:∃ Y,Y=mxI D L:=⟨_,rfl⟩
 rw [←hX] at z ⊢
 rw [←hY] at x z
 simp only [ZH,List.cons_append,List.nil_append] at x z ⊢
 rw [call_102]
 simp -implicitDefEqProofs only [go_sem,simprocAttr,Tryz.f102,x,cat]
 repeat' ((first | apply split_cond | apply split_yes | apply split_no)<;>intro hc<;>simp -implicitDefEqProofs only [hc,go_sem,simprocAttr,x,cat])
 rw [z _ _ (by rfl)]
 simp -implicitDefEqProofs only [go_sem,simprocAttr]
 repeat' ((first | apply split_cond | apply split_yes | apply split_no)<;>intro hc<;>simp -implicitDefEqProofs only [hc,go_sem,simprocAttr])
 rw [RL_eq]
 simp -implicitDefEqProofs only [go_sem,simprocAttr]
 repeat' ((first | apply split_cond | apply split_yes | apply split_no)<;>intro hc<;>simp -implicitDefEqProofs only [hc,go_sem,simprocAttr])
 rw [RL_eq]
 simp -implicitDefEqProofs only [go_sem,simprocAttr]
 repeat' ((first | apply split_cond | apply split_yes | apply split_no)<;>intro hc<;>simp -implicitDefEqProofs only [hc,go_sem,simprocAttr])
theorem rz_leaf:SzR leafX 1 0:=by
 have:=r_szX 1 0 2 1 [] (by simp) 0 0 0 (by simp) ⟨fun _=>rfl,fun h=>absurd rfl h⟩
 simpa using this
theorem rz_neg:∀ n:Nat,n≤1000→SzR (negX n) (n+1) n
 | 0,_=>rz_leaf
 | n+1,h=>by
  have:=r_szX 4 17 0 0 [negX n] (by simp) (n+1) n (n+1) (fun a ha=>by
   simp only [List.mem_singleton] at ha
   subst ha
   exact rz_neg n (by omega)) ⟨fun h=>by simp at h,fun _=>rfl⟩
  rw [show 1+[negX n].length*(n+1)=n+1+1 by simp only [List.length_cons,List.length_nil];omega] at this
  exact this
theorem rz_in (n:Nat) (hn:n≤100000) (h0:n≠0):SzR (inX n) (1+n) 1:=by
 have:=r_szX 6 0 0 0 (List.replicate n leafX) (by rw [List.length_replicate];omega) 1 0 1 (fun a ha=>by
  rw [List.eq_of_mem_replicate ha];exact rz_leaf) ⟨fun h=>by rw [List.length_replicate] at h;exact absurd h h0,fun _=>rfl⟩
 rwa [List.length_replicate,Nat.mul_one] at this
attribute [go_sem] settle settleBy List.range_zero List.contains_cons List.contains_nil
def ItR (m d:Nat) (x:List AV):Prop:=∃ nm c,x=.str nm::c∧SzR c m d
theorem l_szQ (its:List (List AV)) (hl:its.length≤1000000) (m d:Nat) (hd:d≤700000) (ih:∀ a∈its,ItR m d a) (S:List AV) (qS:Qt S) (b:Bool):∀ (k j:Nat) (C D:Int),its.length=j+k→0≤C→C+((k*(m+1):Nat):Int)≤800000→∀ (ks:List It) (Bo:Code) (i:Int),Loop Tryz.f101 6 Bo→i=(j:Int) →
  RL K (.run 101 1 (.code Bo::.lp Bo (some ([0,2,4,95,96,97],[])) 2::.blk 6 2::ks) [(0,.ptr 0 0),(2,I 1),(4,.ptr 1 0),(95,.rows its),(96,I (its.length:Int)),(97,I i)] (ZH C D b++[.cells S])) =
  R K (.run 101 1 ks [(0,.ptr 0 0),(2,I 1),(4,.ptr 1 0)] (ZH (C+((k*(m+1):Nat):Int)) (if k=0 then D else mxI D (3+(d:Int))) b++[.cells S]))
 | 0,j,C,D,hj,h0,h1,ks,Bo,i,hB,hi=>by
  subst hi
  have dd:decide ((j:Int) < (its.length:Int))=false:=decide_eq_false (by omega)
  rw [show C+((0*(m+1):Nat):Int)=C by simp,if_pos rfl]
  simp only [ZH,List.cons_append,List.nil_append]
  unfold Loop at hB
  simp -implicitDefEqProofs only [go_sem,simprocAttr,Tryz.f101,loopOf] at hB
  subst hB
  rw [RL_eq]
  simp -implicitDefEqProofs only [go_sem,simprocAttr,dd,qS.locs]
  repeat' ((first | apply split_cond | apply split_yes | apply split_no)<;>intro hc<;>simp -implicitDefEqProofs only [hc,go_sem,simprocAttr,dd,qS.locs])
 | k+1,j,C,D,hj,h0,h1,ks,Bo,i,hB,hi=>by
  subst hi
  have hk:((k+1)*(m+1):Nat)=k*(m+1)+(m+1):=Nat.succ_mul k (m+1)
  rw [hk] at h1 ⊢
  obtain ⟨x,hx⟩:=some_at (l:=its) (i:=j) (by omega)
  obtain ⟨nm,c,rfl,fx,sx⟩:=ih x (List.mem_of_getElem? hx)
  have p:=r_at C D 2 b h0 (by omega)
  have r:=sx (C+1) (mxI D 2) 3 b (by omega) (by omega) (by omega) (by omega)
  rw [mxI_mxI D 2 (3+(d:Int)) (by omega)] at r
  have z:=l_szQ its hl m d hd ih S qS b k (j+1) (C+1+(m:Int)) (mxI D (3+(d:Int))) (by omega) (by omega) (by omega) ks Bo _ hB rfl
  have e1:(if k=0 then mxI D (3+(d:Int)) else mxI (mxI D (3+(d:Int))) (3+(d:Int)))=mxI D (3+(d:Int)):=by
   split
   ·rfl
   ·exact mxI_mxI _ _ _ (Int.le_refl _)
  have e2:C+1+(m:Int)+((k*(m+1):Nat):Int)=C+((k*(m+1)+(m+1):Nat):Int):=by omega
  rw [e1,e2] at z
  rw [if_neg (by omega)]
  have hB':=hB
  have dd:decide ((j:Int) < (its.length:Int))=true:=decide_eq_true (by omega)
  have h7:=next_id (i:=j) (n:=its.length) (by omega) (by omega)
  have hg:=at_get hx
  have x1:=fx.len
  have xt:c.take 13=c:=by rw [←x1];exact List.take_length
  obtain ⟨X,hX⟩:∃ X,X=mxI D (3+(d:Int)):=⟨_,rfl⟩
  obtain ⟨Y,hY⟩:∃ Y,Y=mxI D 2:=⟨_,rfl⟩
  rw [←hX] at r z ⊢
  rw [←hY] at r p
  simp only [ZH,List.cons_append,List.nil_append] at p r z ⊢
  unfold Loop at hB
  simp -implicitDefEqProofs only [go_sem,simprocAttr,Tryz.f101,loopOf] at hB
  subst hB
  rw [RL_eq]
  simp -implicitDefEqProofs only [go_sem,simprocAttr,dd,h7,hg,x1,xt,qS.locs,qS.ren,fx.locs,fx.one,fx.conv,fx.ren,fx.pure,p,r]
  repeat' ((first | apply split_cond | apply split_yes | apply split_no)<;>intro hc<;>simp -implicitDefEqProofs only [hc,go_sem,simprocAttr,dd,h7,hg,x1,xt,qS.locs,qS.ren,fx.locs,fx.one,fx.conv,fx.ren,fx.pure,p,r])
  rw [z]
theorem r_szQ (its:List (List AV)) (h0:its.length≠0) (hl:its.length≤1000000) (m d:Nat) (hm:its.length*(m+1)≤700000) (hd:d≤700000) (ih:∀ a∈its,ItR m d a):R K (.call 101 [.ptr 0 0,.agg (selX its),I 1] (ZH 0 0 false))=some (.tup [],ZH (1+((its.length*(m+1):Nat):Int)) (3+(d:Int)) (decide (70 < its.length))):=by
 have z:=fun ks Bo hB=>l_szQ its hl m d hd ih (selX its) (q_sel its) (decide (70 < its.length)) its.length 0 1 1 (by omega) (by omega) (by omega) ks Bo 0 hB rfl
 rw [if_neg h0,show mxI 1 (3+(d:Int))=3+(d:Int) by unfold mxI;rw [if_pos (by omega)]] at z
 have x:=r_at 0 0 1 false (by omega) (by omega)
 rw [show (0:Int)+1=1 from rfl,show mxI 0 1=1 from rfl] at x
 have dn:decide ((70:Int) < (its.length:Int))=decide (70 < its.length):=by simp only [decide_eq_decide];omega
 have c3:=c_cat3
 simp only [ZH,List.cons_append,List.nil_append] at x z ⊢
 rw [call_101]
 simp -implicitDefEqProofs only [go_sem,simprocAttr,Tryz.f101,x,dn]
 repeat' ((first | apply split_cond | apply split_yes | apply split_no)<;>intro hc<;>simp -implicitDefEqProofs only [hc,go_sem,simprocAttr,x,dn])
 rw [RL_eq]
 simp -implicitDefEqProofs only [go_sem,simprocAttr]
 repeat' ((first | apply split_cond | apply split_yes | apply split_no)<;>intro hc<;>simp -implicitDefEqProofs only [hc,go_sem,simprocAttr])
 rw [RL_eq]
 simp -implicitDefEqProofs only [go_sem,simprocAttr,c3]
 repeat' ((first | apply split_cond | apply split_yes | apply split_no)<;>intro hc<;>simp -implicitDefEqProofs only [hc,go_sem,simprocAttr,c3])
 rw [RL_eq]
 simp -implicitDefEqProofs only [go_sem,simprocAttr]
 repeat' ((first | apply split_cond | apply split_yes | apply split_no)<;>intro hc<;>simp -implicitDefEqProofs only [hc,go_sem,simprocAttr])
 rw [z _ _ (by rfl)]
 simp -implicitDefEqProofs only [go_sem,simprocAttr]
 repeat' ((first | apply split_cond | apply split_yes | apply split_no)<;>intro hc<;>simp -implicitDefEqProofs only [hc,go_sem,simprocAttr])
 rw [RL_eq]
 simp -implicitDefEqProofs only [go_sem,simprocAttr]
 repeat' ((first | apply split_cond | apply split_yes | apply split_no)<;>intro hc<;>simp -implicitDefEqProofs only [hc,go_sem,simprocAttr])
def bigR (n m d p:Nat):Bool:=decide (70 < n)||decide (12000 < 1+n*(m+1))||decide (80 < 3+d)||decide (60 < p)
theorem r_tooBig (ps its:List (List AV)) (hp:ps.length≤1000000) (h0:its.length≠0) (hl:its.length≤1000000) (m d:Nat) (hm:its.length*(m+1)≤700000) (hd:d≤700000) (ih:∀ a∈its,ItR m d a):R K (.call 44 [stX ps its] [])=some (.bool (bigR its.length m d ps.length),[]):=by
 have x:=r_szQ its h0 hl m d hm hd ih
 have c2:=c_cat0
 have d1:decide ((12000:Int) < 1+((its.length*(m+1):Nat):Int))=decide (12000 < 1+its.length*(m+1)):=by simp only [decide_eq_decide];omega
 have d2:decide ((80:Int) < 3+(d:Int))=decide (80 < 3+d):=by simp only [decide_eq_decide];omega
 have d3:decide ((60:Int) < (ps.length:Int))=decide (60 < ps.length):=by simp only [decide_eq_decide];omega
 unfold bigR
 obtain ⟨X,hX⟩:∃ X:Int,X=1+((its.length*(m+1):Nat):Int):=⟨_,rfl⟩
 obtain ⟨Y,hY⟩:∃ Y:Int,Y=3+(d:Int):=⟨_,rfl⟩
 rw [←hX,←hY] at x
 rw [←hX] at d1
 rw [←hY] at d2
 generalize decide (12000 < 1+its.length*(m+1))=B1 at d1 ⊢
 generalize decide (80 < 3+d)=B2 at d2 ⊢
 generalize decide (60 < ps.length)=B3 at d3 ⊢
 generalize decide (70 < its.length)=B0 at x ⊢
 simp only [ZH,List.cons_append,List.nil_append] at x
 rcases B0 with _ | _<;>rcases B1 with _ | _<;>rcases B2 with _ | _
 all_goals
  rw [call_44]
  simp -implicitDefEqProofs only [go_sem,simprocAttr,Tryz.f44,x]
  repeat' ((first | apply split_cond | apply split_yes | apply split_no)<;>intro hc<;>simp -implicitDefEqProofs only [hc,go_sem,simprocAttr,x])
  rw [RL_eq]
  simp -implicitDefEqProofs only [go_sem,simprocAttr,x]
  repeat' ((first | apply split_cond | apply split_yes | apply split_no)<;>intro hc<;>simp -implicitDefEqProofs only [hc,go_sem,simprocAttr,x])
  rw [RL_eq]
  simp -implicitDefEqProofs only [go_sem,simprocAttr,x]
  repeat' ((first | apply split_cond | apply split_yes | apply split_no)<;>intro hc<;>simp -implicitDefEqProofs only [hc,go_sem,simprocAttr,x])
  rw [RL_eq]
  simp -implicitDefEqProofs only [go_sem,simprocAttr,c2]
  repeat' ((first | apply split_cond | apply split_yes | apply split_no)<;>intro hc<;>simp -implicitDefEqProofs only [hc,go_sem,simprocAttr,c2])
  rw [RL_eq]
  simp -implicitDefEqProofs only [go_sem,simprocAttr,d1,d2,d3]
  repeat' ((first | apply split_cond | apply split_yes | apply split_no)<;>intro hc<;>simp -implicitDefEqProofs only [hc,go_sem,simprocAttr,d1,d2,d3])
def ItN (x:List AV):Prop:=∃ nm c,x=.str nm::c∧Fl c∧NoAg 198 c
theorem l_eo (its:List (List AV)) (hl:its.length≤1000000) (ih:∀ x∈its,ItN x) (S:List AV) (qS:Qt S):∀ (m j:Nat) (E0:List (List AV)),its.length=j+m→E0.length=j→locsR E0=[]→(∀ c∈E0,Fl c∧NoAg 198 c)→∃ E1:List (List AV),(E1.length=its.length∧locsR E1=[]∧∀ c∈E1,Fl c∧NoAg 198 c)∧∀ (ks:List It) (Bo:Code) (i:Int),Loop Tryz.f197 4 Bo→i=(j:Int) →
  RL K (.run 197 0 (.code Bo::.lp Bo (some ([1,3,55,56,57],[])) 3::.blk 4 3::ks) [(1,.ptr 0 0),(3,.ptr 1 0),(55,.rows its),(56,I (its.length:Int)),(57,I i)] [.cells S,.cells [.own 2 j],.rows 13 E0 true]) =
  R K (.run 197 0 ks [(1,.ptr 0 0),(3,.ptr 1 0)] [.cells S,.cells [.own 2 its.length],.rows 13 E1 true])
 | 0,j,E0,hj,hE,hL,hF=>by
  refine ⟨E0,⟨by omega,hL,hF⟩,fun ks Bo i hB hi=>?_⟩
  subst hi
  have ej:its.length=j:=by omega
  have d:decide ((j:Int) < (j:Int))=false:=decide_eq_false (by omega)
  rw [ej]
  unfold Loop at hB
  simp -implicitDefEqProofs only [go_sem,simprocAttr,Tryz.f197,loopOf] at hB
  subst hB
  rw [RL_eq]
  simp -implicitDefEqProofs only [go_sem,simprocAttr,d,qS.locs,hL]
  repeat' ((first | apply split_cond | apply split_yes | apply split_no)<;>intro hc<;>simp -implicitDefEqProofs only [hc,go_sem,simprocAttr,d,qS.locs,hL])
 | m+1,j,E0,hj,hE,hL,hF=>by
  obtain ⟨x,hx⟩:=some_at (l:=its) (i:=j) (by omega)
  obtain ⟨nm,c,rfl,fc,hc⟩:=ih x (List.mem_of_getElem? hx)
  have hL':locsR (E0++[c])=[]:=by
   rw [locsR_ap2,hL,locsR,fc.locs];rfl
  obtain ⟨E1,he,z⟩:=l_eo its hl ih S qS m (j+1) (E0++[c]) (by omega) (by rw [List.length_append];simp [hE]) hL' (fun a ha=>by
   rcases List.mem_append.1 ha with h | h
   ·exact hF a h
   ·simp only [List.mem_singleton] at h;subst h;exact ⟨fc,hc⟩)
  refine ⟨E1,he,fun ks Bo i hB hi=>?_⟩
  subst hi
  have hB':=hB
  have d:decide ((j:Int) < (its.length:Int))=true:=decide_eq_true (by omega)
  have h7:=next_id (i:=j) (n:=its.length) (by omega) (by omega)
  have hg:=at_get hx
  have x1:=fc.len
  have xt:c.take 13=c:=by rw [←x1];exact List.take_length
  have room:((j+1)*193≤roomMax)=True:=eq_true (by unfold roomMax;omega)
  have hat:∀ z:List AV,at? (E0++[z]) (j:Int)=some z:=fun z=>by
   unfold at?
   rw [if_pos (by omega)]
   simp [←hE]
  have hget:∀ z:List AV,(E0++[z])[j]? = some z:=fun z=>by simp [←hE]
  have hset:∀ z y:List AV,(E0++[z]).set j y=E0++[y]:=fun z y=>by simp [←hE]
  have z:=z ks Bo _ hB' rfl
  unfold Loop at hB
  simp -implicitDefEqProofs only [go_sem,simprocAttr,Tryz.f197,loopOf] at hB
  subst hB
  rw [RL_eq]
  simp -implicitDefEqProofs only [go_sem,simprocAttr,d,h7,hg,x1,xt,qS.locs,qS.ren,fc.locs,fc.one,fc.conv,fc.ren,fc.pure,room,hE,hL,hL',hat,hget,hset,Int.toNat_natCast]
  repeat' ((first | apply split_cond | apply split_yes | apply split_no)<;>intro hc<;>simp -implicitDefEqProofs only [hc,go_sem,simprocAttr,d,h7,hg,x1,xt,qS.locs,qS.ren,fc.locs,fc.one,fc.conv,fc.ren,fc.pure,room,hE,hL,hL',hat,hget,hset,Int.toNat_natCast])
  rw [z]
theorem r_eo (its:List (List AV)) (hl:its.length≤1000000) (ih:∀ x∈its,ItN x):∃ E1:List (List AV),(E1.length=its.length∧∀ c∈E1,Fl c∧NoAg 198 c)∧R K (.call 197 [.agg (selX its)] [])=some (.rows E1,[]):=by
 obtain ⟨E1,⟨h1,h2,h3⟩,z⟩:=l_eo its hl ih (selX its) (q_sel its) its.length 0 [] (by omega) rfl rfl (by simp)
 refine ⟨E1,⟨h1,h3⟩,?_⟩
 have z:=fun ks Bo hB=>z ks Bo 0 hB rfl
 rw [call_197]
 simp -implicitDefEqProofs only [go_sem,simprocAttr,Tryz.f197]
 repeat' ((first | apply split_cond | apply split_yes | apply split_no)<;>intro hc<;>simp -implicitDefEqProofs only [hc,go_sem,simprocAttr])
 rw [RL_eq]
 simp -implicitDefEqProofs only [go_sem,simprocAttr,Nat.zero_le]
 repeat' ((first | apply split_cond | apply split_yes | apply split_no)<;>intro hc<;>simp -implicitDefEqProofs only [hc,go_sem,simprocAttr,Nat.zero_le])
 rw [RL_eq]
 simp -implicitDefEqProofs only [go_sem,simprocAttr,Nat.zero_le]
 repeat' ((first | apply split_cond | apply split_yes | apply split_no)<;>intro hc<;>simp -implicitDefEqProofs only [hc,go_sem,simprocAttr,Nat.zero_le])
 rw [z _ _ (by rfl)]
 simp -implicitDefEqProofs only [go_sem,simprocAttr]
 repeat' ((first | apply split_cond | apply split_yes | apply split_no)<;>intro hc<;>simp -implicitDefEqProofs only [hc,go_sem,simprocAttr])
 rw [RL_eq]
 simp -implicitDefEqProofs only [go_sem,simprocAttr,h1,h2,true_or,or_true,and_true,if_true]
 repeat' ((first | apply split_cond | apply split_yes | apply split_no)<;>intro hc<;>simp -implicitDefEqProofs only [hc,go_sem,simprocAttr,h1,h2,true_or,or_true,and_true,if_true])
theorem r_grouped (its:List (List AV)) (hl:its.length≤1000000) (ih:∀ x∈its,ItN x):R K (.call 109 [.agg (selX its)] [])=some (.bool false,[]):=by
 obtain ⟨E1,⟨h1,h2⟩,x⟩:=r_eo its hl ih
 have y:=c_noneE2 E1 (by omega) (fun a ha=>(h2 a ha).1) (fun a ha=>(h2 a ha).2)
 rw [call_109]
 simp -implicitDefEqProofs only [go_sem,simprocAttr,Tryz.f109]
 repeat' ((first | apply split_cond | apply split_yes | apply split_no)<;>intro hc<;>simp -implicitDefEqProofs only [hc,go_sem,simprocAttr])
 rw [RL_eq]
 simp -implicitDefEqProofs only [go_sem,simprocAttr,x,y]
 repeat' ((first | apply split_cond | apply split_yes | apply split_no)<;>intro hc<;>simp -implicitDefEqProofs only [hc,go_sem,simprocAttr,x,y])
attribute [go_sem] settle settleBy List.range_zero List.contains_cons List.contains_nil
theorem kwB (t:Nat):K.shut.wrB t=wrB t:=rfl
theorem rm9:(9≤roomMax)=True:=eq_true (by unfold roomMax;omega)
theorem k_rw1:R K (.call 45 [I (-1),I (-1),I 999999999999999] [])=some (.bool true,[]):=R_of_runN (n:=60) (by kernel_rfl)
theorem k_rw2:R K (.call 45 [I 0,I 0,I 999999999999999] [])=some (.bool true,[]):=R_of_runN (n:=60) (by kernel_rfl)
theorem k_clip:R K (.call 104 [.nils] [])=some (.nils,[]):=R_of_runN (n:=60) (by kernel_rfl)
abbrev RS (T ps:List (List AV)) (a w:Bool):Heap:=[.cells [.rows T,.rows ps,.own 1 1],.rows 1 [[.ptr 2 0]] false,.cells [.nils,.nils,.nils,.nils,.bool false,.bool a,.bool w,.bool false]]
theorem r_srcs (its T ps:List (List AV)) (a w:Bool):R K (.call 105 [.ptr 0 0,.agg (selX its)] (RS T ps a w))=some (I 0,RS T ps a w):=by
 rw [call_105]
 simp -implicitDefEqProofs only [go_sem,simprocAttr,Tryz.f105,RS]
 repeat' ((first | apply split_cond | apply split_yes | apply split_no)<;>intro hc<;>simp -implicitDefEqProofs only [hc,go_sem,simprocAttr,RS])
 rw [RL_eq]
 simp -implicitDefEqProofs only [go_sem,simprocAttr]
 repeat' ((first | apply split_cond | apply split_yes | apply split_no)<;>intro hc<;>simp -implicitDefEqProofs only [hc,go_sem,simprocAttr])
 rw [RL_eq]
 simp -implicitDefEqProofs only [go_sem,simprocAttr]
 repeat' ((first | apply split_cond | apply split_yes | apply split_no)<;>intro hc<;>simp -implicitDefEqProofs only [hc,go_sem,simprocAttr])
attribute [go_sem] settle settleBy List.range_zero List.contains_cons List.contains_nil
theorem r_last (T ps:List (List AV)) (a w:Bool):R K (.call 192 [.ptr 0 0] (RS T ps a w))=some (.ptr 2 0,RS T ps a w):=by
 rw [call_192]
 simp -implicitDefEqProofs only [go_sem,simprocAttr,Tryz.f192,RS]
 repeat' ((first | apply split_cond | apply split_yes | apply split_no)<;>intro hc<;>simp -implicitDefEqProofs only [hc,go_sem,simprocAttr,RS])
def ChR (c:List AV) (k:Int):Prop:=Fl c∧∀ (T ps:List (List AV)) (a w:Bool),R K (.call 194 [.ptr 0 0,.agg c] (RS T ps a w))=some (.tup [I k,I 0],RS T ps a w)
theorem l_in (args:List (List AV)) (hl:args.length≤1000000) (kk:Int) (ih:∀ a∈args,ChR a kk) (S:List AV) (qS:Qt S) (T ps:List (List AV)) (a w:Bool):∀ (m j:Nat) (R0:List (List AV)) (i:Int) (Bo:Code) (ks:List It),args.length=j+m→R0.length=j→locsR R0=[]→i=(j:Int)→Loop Tryz.f289 0 Bo →
  RL K (.run 289 3 (.code Bo::.lp Bo (some ([0,3,9,59,60,61],[])) 7::.blk 0 7::ks) [(0,.ptr 0 0),(3,.ptr 3 0),(9,.own 6 j),(59,.rows args),(60,I (args.length:Int)),(61,I i)] (RS T ps a w++[.cells S,.cells [.ptr 2 0],.cells [.bool false],.rows 1 R0 true])) =
  R K (.run 289 3 ks [(0,.ptr 0 0),(3,.ptr 3 0),(9,.own 6 args.length)] (RS T ps a w++[.cells S,.cells [.ptr 2 0],.cells [.bool false],.rows 1 (R0++List.replicate m [I kk]) true]))
 | 0,j,R0,i,Bo,ks,hj,hR,hL,hi,hB=>by
  subst hi
  have ej:args.length=j:=by omega
  have d:decide ((j:Int) < (j:Int))=false:=decide_eq_false (by omega)
  rw [ej,show List.replicate 0 [I kk]=[] from rfl,List.append_nil]
  simp only [RS,List.cons_append,List.nil_append]
  unfold Loop at hB
  simp -implicitDefEqProofs only [go_sem,simprocAttr,Tryz.f289,loopOf] at hB
  subst hB
  rw [RL_eq]
  simp -implicitDefEqProofs only [go_sem,simprocAttr,d,qS.locs,hL,under]
  repeat' ((first | apply split_cond | apply split_yes | apply split_no)<;>intro hc<;>simp -implicitDefEqProofs only [hc,go_sem,simprocAttr,d,qS.locs,hL,under])
 | m+1,j,R0,i,Bo,ks,hj,hR,hL,hi,hB=>by
  subst hi
  have hB':=hB
  have d:decide ((j:Int) < (args.length:Int))=true:=decide_eq_true (by omega)
  have h7:=next_id (i:=j) (n:=args.length) (by omega) (by omega)
  obtain ⟨x,hx⟩:=some_at (l:=args) (i:=j) (by omega)
  have hg:=at_get hx
  obtain ⟨fx,hp⟩:=ih x (List.mem_of_getElem? hx)
  have r:=hp T ps a w
  have x1:=fx.len
  have xt:x.take 13=x:=by rw [←x1];exact List.take_length
  have hL':locsR (R0++[[I kk]])=[]:=by rw [locsR_ap2,hL];rfl
  have room:((j+1)*9≤roomMax)=True:=eq_true (by unfold roomMax;omega)
  have z:=l_in args hl kk ih S qS T ps a w m (j+1) (R0++[[I kk]]) _ Bo ks (by omega) (by rw [List.length_append];simp [hR]) hL' rfl hB'
  rw [List.append_assoc,List.singleton_append,←List.replicate_succ] at z
  simp only [RS,List.cons_append,List.nil_append] at r z ⊢
  unfold Loop at hB
  simp -implicitDefEqProofs only [go_sem,simprocAttr,Tryz.f289,loopOf] at hB
  subst hB
  rw [RL_eq]
  simp -implicitDefEqProofs only [go_sem,simprocAttr,d,h7,hg,x1,xt,qS.locs,qS.ren,fx.locs,fx.one,fx.conv,fx.ren,fx.pure,r,hR,room,hL',under]
  repeat' ((first | apply split_cond | apply split_yes | apply split_no)<;>intro hc<;>simp -implicitDefEqProofs only [hc,go_sem,simprocAttr,d,h7,hg,x1,xt,qS.locs,qS.ren,fx.locs,fx.one,fx.conv,fx.ren,fx.pure,r,hR,room,hL',under])
  rw [z]
  try rfl
theorem r_inner (k op vk vn:Int) (args:List (List AV)) (h9:(k==9)=false) (h10:(k==10)=false) (hl:args.length≤1000000) (kk:Int) (ih:∀ a∈args,ChR a kk) (T ps:List (List AV)) (a w:Bool):R K (.call 289 [.ptr 0 0,.agg (nd k op vk vn args)] (RS T ps a w))=some (.tup [.rows (List.replicate args.length [I kk]),I 0,I 0],RS T ps a w):=by
 have l:=r_last T ps a w
 have lk:=fun Bo ks hB=>l_in args hl kk ih (nd k op vk vn args) ⟨rfl,fun _=>rfl⟩ T ps a w args.length 0 [] 0 Bo ks (by omega) rfl rfl rfl hB
 simp only [RS,List.cons_append,List.nil_append] at l lk
 rw [call_289]
 simp -implicitDefEqProofs only [go_sem,simprocAttr,Tryz.f289,RS,l,h9,h10]
 repeat' ((first | apply split_cond | apply split_yes | apply split_no)<;>intro hc<;>simp -implicitDefEqProofs only [hc,go_sem,simprocAttr,RS,l,h9,h10])
 rw [lk _ _ (by rfl)]
 simp -implicitDefEqProofs only [go_sem,simprocAttr]
 repeat' ((first | apply split_cond | apply split_yes | apply split_no)<;>intro hc<;>simp -implicitDefEqProofs only [hc,go_sem,simprocAttr])
 rw [RL_eq]
 simp -implicitDefEqProofs only [go_sem,simprocAttr]
 repeat' ((first | apply split_cond | apply split_yes | apply split_no)<;>intro hc<;>simp -implicitDefEqProofs only [hc,go_sem,simprocAttr])
 rw [RL_eq]
 simp -implicitDefEqProofs only [go_sem,simprocAttr]
 repeat' ((first | apply split_cond | apply split_yes | apply split_no)<;>intro hc<;>simp -implicitDefEqProofs only [hc,go_sem,simprocAttr])
 rw [RL_eq]
 simp -implicitDefEqProofs only [go_sem,simprocAttr,locsR_rep,true_or,if_true]
 repeat' ((first | apply split_cond | apply split_yes | apply split_no)<;>intro hc<;>simp -implicitDefEqProofs only [hc,go_sem,simprocAttr,locsR_rep,true_or,if_true])
theorem l_Fits (n:Nat) (hn:n≤1000000) (ks:List It):∀ (m j:Nat) (i o:Int) (Bo:Code),Loop Tryz.f115 0 Bo→i=(j:Int)→n=j+m→(j=0∧o=0∨0 < j∧o=2) →
  RL K (.run 115 0 (.code Bo::.lp Bo (some ([4,7,8,9],[])) 0::.blk 0 0::ks) [(4,I o),(7,.rows (twos n)),(8,I (n:Int)),(9,I i)] [])=R K (.run 115 0 ks [(4,I (if n=0 then 0 else 2))] [])
 | 0,j,i,o,Bo,hB,hi,hj,ho=>by
  subst hi
  have ej:n=j:=by omega
  have h1:decide ((j:Int) < (n:Int))=false:=decide_eq_false (by omega)
  have eo:(if n=0 then (0:Int) else 2)=o:=by
   rcases ho with ⟨h,rfl⟩ | ⟨h,rfl⟩
   ·rw [if_pos (by omega)]
   ·rw [if_neg (by omega)]
  rw [eo]
  unfold Loop at hB
  simp -implicitDefEqProofs only [go_sem,simprocAttr,Tryz.f115,loopOf] at hB
  subst hB
  rw [RL_eq]
  simp -implicitDefEqProofs only [go_sem,simprocAttr,h1]
  repeat' ((first | apply split_cond | apply split_yes | apply split_no)<;>intro hc<;>simp -implicitDefEqProofs only [hc,go_sem,simprocAttr,h1])
 | m+1,j,i,o,Bo,hB,hi,hj,ho=>by
  subst hi
  have hB':=hB
  have h1:decide ((j:Int) < (n:Int))=true:=decide_eq_true (by omega)
  have h7:=next_id (i:=j) (n:=n) (by omega) (by omega)
  have hg:=twos_at (n:=n) (j:=j) (by omega)
  have ih:=l_Fits n hn ks m (j+1) _ 2 Bo hB' rfl (by omega) (.inr ⟨by omega,rfl⟩)
  rcases ho with ⟨_,rfl⟩ | ⟨_,rfl⟩
  ·unfold Loop at hB
   simp -implicitDefEqProofs only [go_sem,simprocAttr,Tryz.f115,loopOf] at hB
   subst hB
   rw [RL_eq]
   simp -implicitDefEqProofs only [go_sem,simprocAttr,h1,h7,hg]
   repeat' ((first | apply split_cond | apply split_yes | apply split_no)<;>intro hc<;>simp -implicitDefEqProofs only [hc,go_sem,simprocAttr,h1,h7,hg])
   rw [ih]
  ·unfold Loop at hB
   simp -implicitDefEqProofs only [go_sem,simprocAttr,Tryz.f115,loopOf] at hB
   subst hB
   rw [RL_eq]
   simp -implicitDefEqProofs only [go_sem,simprocAttr,h1,h7,hg]
   repeat' ((first | apply split_cond | apply split_yes | apply split_no)<;>intro hc<;>simp -implicitDefEqProofs only [hc,go_sem,simprocAttr,h1,h7,hg])
   rw [ih]
theorem r_Fits (n:Nat) (hn:n≤1000000) (h0:n≠0):R K (.call 115 [.rows (twos n)] [])=some (.tup [I 2,.bool true],[]):=by
 have lk:=fun ks B hB=>l_Fits n hn ks n 0 0 0 B hB rfl (by omega) (.inl ⟨rfl,rfl⟩)
 rw [if_neg h0] at lk
 rw [call_115]
 simp -implicitDefEqProofs only [go_sem,simprocAttr,Tryz.f115,List.length_replicate]
 repeat' ((first | apply split_cond | apply split_yes | apply split_no)<;>intro hc<;>simp -implicitDefEqProofs only [hc,go_sem,simprocAttr,List.length_replicate])
 rw [lk _ _ (by rfl)]
 simp -implicitDefEqProofs only [go_sem,simprocAttr]
 repeat' ((first | apply split_cond | apply split_yes | apply split_no)<;>intro hc<;>simp -implicitDefEqProofs only [hc,go_sem,simprocAttr])
theorem k_has_oa_o:R K (.call 443 [.str [111],.ptr 0 0] [.cells [.str [111,97]]])=some (.bool true,[.cells [.str [111,97]]]):=R_of_runN (n:=60) (by kernel_rfl)
theorem k_has_oa_n:R K (.call 443 [.str [110],.ptr 0 0] [.cells [.str [111,97]]])=some (.bool false,[.cells [.str [111,97]]]):=R_of_runN (n:=60) (by kernel_rfl)
theorem k_has_oa_v:R K (.call 443 [.str [118],.ptr 0 0] [.cells [.str [111,97]]])=some (.bool false,[.cells [.str [111,97]]]):=R_of_runN (n:=60) (by kernel_rfl)
theorem k_has_oa_c:R K (.call 443 [.str [99],.ptr 0 0] [.cells [.str [111,97]]])=some (.bool false,[.cells [.str [111,97]]]):=R_of_runN (n:=60) (by kernel_rfl)
theorem k_has_oa_d:R K (.call 443 [.str [100],.ptr 0 0] [.cells [.str [111,97]]])=some (.bool false,[.cells [.str [111,97]]]):=R_of_runN (n:=60) (by kernel_rfl)
theorem k_has_oa_a:R K (.call 443 [.str [97],.ptr 0 0] [.cells [.str [111,97]]])=some (.bool true,[.cells [.str [111,97]]]):=R_of_runN (n:=60) (by kernel_rfl)
theorem k_has_oa_s:R K (.call 443 [.str [115],.ptr 0 0] [.cells [.str [111,97]]])=some (.bool false,[.cells [.str [111,97]]]):=R_of_runN (n:=60) (by kernel_rfl)
theorem k_has_oa_g:R K (.call 443 [.str [103],.ptr 0 0] [.cells [.str [111,97]]])=some (.bool false,[.cells [.str [111,97]]]):=R_of_runN (n:=60) (by kernel_rfl)
theorem k_has_oa_r:R K (.call 443 [.str [114],.ptr 0 0] [.cells [.str [111,97]]])=some (.bool false,[.cells [.str [111,97]]]):=R_of_runN (n:=60) (by kernel_rfl)
theorem k_has_a_o:R K (.call 443 [.str [111],.ptr 0 0] [.cells [.str [97]]])=some (.bool false,[.cells [.str [97]]]):=R_of_runN (n:=60) (by kernel_rfl)
theorem k_has_a_n:R K (.call 443 [.str [110],.ptr 0 0] [.cells [.str [97]]])=some (.bool false,[.cells [.str [97]]]):=R_of_runN (n:=60) (by kernel_rfl)
theorem k_has_a_v:R K (.call 443 [.str [118],.ptr 0 0] [.cells [.str [97]]])=some (.bool false,[.cells [.str [97]]]):=R_of_runN (n:=60) (by kernel_rfl)
theorem k_has_a_c:R K (.call 443 [.str [99],.ptr 0 0] [.cells [.str [97]]])=some (.bool false,[.cells [.str [97]]]):=R_of_runN (n:=60) (by kernel_rfl)
theorem k_has_a_d:R K (.call 443 [.str [100],.ptr 0 0] [.cells [.str [97]]])=some (.bool false,[.cells [.str [97]]]):=R_of_runN (n:=60) (by kernel_rfl)
theorem k_has_a_a:R K (.call 443 [.str [97],.ptr 0 0] [.cells [.str [97]]])=some (.bool true,[.cells [.str [97]]]):=R_of_runN (n:=60) (by kernel_rfl)
theorem k_has_a_s:R K (.call 443 [.str [115],.ptr 0 0] [.cells [.str [97]]])=some (.bool false,[.cells [.str [97]]]):=R_of_runN (n:=60) (by kernel_rfl)
theorem k_has_a_g:R K (.call 443 [.str [103],.ptr 0 0] [.cells [.str [97]]])=some (.bool false,[.cells [.str [97]]]):=R_of_runN (n:=60) (by kernel_rfl)
theorem k_has_a_r:R K (.call 443 [.str [114],.ptr 0 0] [.cells [.str [97]]])=some (.bool false,[.cells [.str [97]]]):=R_of_runN (n:=60) (by kernel_rfl)
theorem r_only1 (a:List AV):R K (.call 381 [.agg (nd 4 17 0 0 [a]),.str [111,97]] [])=some (.bool true,[]):=by
 rw [call_381]
 simp -implicitDefEqProofs only [go_sem,simprocAttr,Tryz.f381,List.append_eq,Array.toList_append,beq_self_eq_true,k_has_oa_o,k_has_oa_n,k_has_oa_v,k_has_oa_c,k_has_oa_d,k_has_oa_a,k_has_oa_s,k_has_oa_g,k_has_oa_r]
 repeat' ((first | apply split_cond | apply split_yes | apply split_no)<;>intro hc<;>simp -implicitDefEqProofs only [hc,go_sem,simprocAttr,List.append_eq,Array.toList_append,beq_self_eq_true,k_has_oa_o,k_has_oa_n,k_has_oa_v,k_has_oa_c,k_has_oa_d,k_has_oa_a,k_has_oa_s,k_has_oa_g,k_has_oa_r])
theorem r_only2 (args:List (List AV)):R K (.call 381 [.agg (nd 6 0 0 0 args),.str [97]] [])=some (.bool true,[]):=by
 rw [call_381]
 simp -implicitDefEqProofs only [go_sem,simprocAttr,Tryz.f381,List.append_eq,Array.toList_append,beq_self_eq_true,k_has_a_o,k_has_a_n,k_has_a_v,k_has_a_c,k_has_a_d,k_has_a_a,k_has_a_s,k_has_a_g,k_has_a_r]
 repeat' ((first | apply split_cond | apply split_yes | apply split_no)<;>intro hc<;>simp -implicitDefEqProofs only [hc,go_sem,simprocAttr,List.append_eq,Array.toList_append,beq_self_eq_true,k_has_a_o,k_has_a_n,k_has_a_v,k_has_a_c,k_has_a_d,k_has_a_a,k_has_a_s,k_has_a_g,k_has_a_r])
theorem k_argsOf:R K (.call 445 [I 17] [])=some (.tup [I 1,I 1],[]):=R_of_runN (n:=100) (by kernel_rfl)
theorem k_rw3:R K (.call 45 [I 4,I 1,I 6] [])=some (.bool true,[]):=R_of_runN (n:=60) (by kernel_rfl)
theorem k_rw4:R K (.call 45 [I 6,I 1,I 6] [])=some (.bool true,[]):=R_of_runN (n:=60) (by kernel_rfl)
theorem k_rw5:R K (.call 45 [I 17,I 1,I 27] [])=some (.bool true,[]):=R_of_runN (n:=60) (by kernel_rfl)
theorem k_rw6:R K (.call 45 [I 1,I 1,I 1] [])=some (.bool true,[]):=R_of_runN (n:=60) (by kernel_rfl)
theorem r_form0:R K (.call 382 [.agg leafX] [])=some (I 0,[]):=R_of_runN (n:=900) (by kernel_rfl)
theorem r_form1 (a:List AV):R K (.call 382 [.agg (nd 4 17 0 0 [a])] [])=some (I 0,[]):=by
 have x:=r_only1 a
 rw [call_382]
 simp -implicitDefEqProofs only [go_sem,simprocAttr,Tryz.f382,x,k_argsOf,k_rw3,k_rw5,k_rw6]
 repeat' ((first | apply split_cond | apply split_yes | apply split_no)<;>intro hc<;>simp -implicitDefEqProofs only [hc,go_sem,simprocAttr,x,k_argsOf,k_rw3,k_rw5,k_rw6])
theorem r_form2 (args:List (List AV)) (hl:args.length≤1000000) (h2:2≤args.length):R K (.call 382 [.agg (nd 6 0 0 0 args)] [])=some (I 0,[]):=by
 have d:decide ((2:Int)≤(args.length:Int))=true:=decide_eq_true (by omega)
 have x:=r_only2 args
 rw [call_382]
 simp -implicitDefEqProofs only [go_sem,simprocAttr,Tryz.f382,x,k_rw4,d]
 repeat' ((first | apply split_cond | apply split_yes | apply split_no)<;>intro hc<;>simp -implicitDefEqProofs only [hc,go_sem,simprocAttr,x,k_rw4,d])
theorem k_any:R K (.call 447 [.agg [I 2,I 1,.str []]] [])=some (I 0,[]):=R_of_runN (n:=300) (by kernel_rfl)
theorem r_leaf0 (ps:List (List AV)):R K (.call 383 [.agg leafX,.rows [],.rows ps,.bool true] [])=some (.tup [I 2,I 0],[]):=by
 rw [call_383]
 simp -implicitDefEqProofs only [go_sem,simprocAttr,Tryz.f383,k_any]
 repeat' ((first | apply split_cond | apply split_yes | apply split_no)<;>intro hc<;>simp -implicitDefEqProofs only [hc,go_sem,simprocAttr,k_any])
theorem r_leaf1 (a:List AV) (ps:List (List AV)):R K (.call 383 [.agg (nd 4 17 0 0 [a]),.rows [],.rows ps,.bool true] [])=some (.tup [I 0,I 0],[]):=by
 rw [call_383]
 simp -implicitDefEqProofs only [go_sem,simprocAttr,Tryz.f383]
 repeat' ((first | apply split_cond | apply split_yes | apply split_no)<;>intro hc<;>simp -implicitDefEqProofs only [hc,go_sem,simprocAttr])
theorem r_leaf2 (args ps:List (List AV)):R K (.call 383 [.agg (nd 6 0 0 0 args),.rows [],.rows ps,.bool true] [])=some (.tup [I 0,I 0],[]):=by
 rw [call_383]
 simp -implicitDefEqProofs only [go_sem,simprocAttr,Tryz.f383]
 repeat' ((first | apply split_cond | apply split_yes | apply split_no)<;>intro hc<;>simp -implicitDefEqProofs only [hc,go_sem,simprocAttr])
theorem k_is:R K (.call 450 [I 2,.rows [[I 2]],.ptr 0 0] [.cells [.rows [[I 2]]]])=some (.tup [I 2,.bool true],[.cells [.rows [[I 2]]]]):=R_of_runN (n:=300) (by kernel_rfl)
theorem r_opKind (a:List AV):R K (.call 384 [.agg (nd 4 17 0 0 [a]),.rows [[I 2]]] [])=some (.tup [I 2,.bool true],[]):=by
 rw [call_384]
 simp -implicitDefEqProofs only [go_sem,simprocAttr,Tryz.f384,k_is]
 repeat' ((first | apply split_cond | apply split_yes | apply split_no)<;>intro hc<;>simp -implicitDefEqProofs only [hc,go_sem,simprocAttr,k_is])
theorem r_caseKind (args:List (List AV)) (n:Nat) (hn:n≤1000000) (h0:n≠0):R K (.call 385 [.agg (nd 6 0 0 0 args),.rows (twos n)] [])=some (.tup [I 1,.bool true],[]):=by
 have x:=r_Fits n hn h0
 rw [call_385]
 simp -implicitDefEqProofs only [go_sem,simprocAttr,Tryz.f385,x]
 repeat' ((first | apply split_cond | apply split_yes | apply split_no)<;>intro hc<;>simp -implicitDefEqProofs only [hc,go_sem,simprocAttr,x])
theorem r_sqlForm0 (args:List (List AV)):R K (.call 290 [.agg (nd 1 0 2 1 args)] [])=some (.tup [I 0,.bool false],[]):=by
 rw [call_290]
 simp -implicitDefEqProofs only [go_sem,simprocAttr,Tryz.f290]
 repeat' ((first | apply split_cond | apply split_yes | apply split_no)<;>intro hc<;>simp -implicitDefEqProofs only [hc,go_sem,simprocAttr])
theorem r_sqlForm1 (args:List (List AV)):R K (.call 290 [.agg (nd 4 17 0 0 args)] [])=some (.tup [I 0,.bool false],[]):=by
 rw [call_290]
 simp -implicitDefEqProofs only [go_sem,simprocAttr,Tryz.f290]
 repeat' ((first | apply split_cond | apply split_yes | apply split_no)<;>intro hc<;>simp -implicitDefEqProofs only [hc,go_sem,simprocAttr])
theorem r_sqlForm2 (args:List (List AV)):R K (.call 290 [.agg (nd 6 0 0 0 args)] [])=some (.tup [I 0,.bool false],[]):=by
 rw [call_290]
 simp -implicitDefEqProofs only [go_sem,simprocAttr,Tryz.f290]
 repeat' ((first | apply split_cond | apply split_yes | apply split_no)<;>intro hc<;>simp -implicitDefEqProofs only [hc,go_sem,simprocAttr])
theorem r_plain0 (T ps:List (List AV)) (a w:Bool):R K (.call 291 [.ptr 0 0,.agg leafX,.rows []] (RS T ps a w))=some (.tup [I 2,I 0],RS T ps a w):=by
 have x:=r_leaf0 ps
 rw [call_291]
 simp -implicitDefEqProofs only [go_sem,simprocAttr,Tryz.f291,RS,r_form0,x]
 repeat' ((first | apply split_cond | apply split_yes | apply split_no)<;>intro hc<;>simp -implicitDefEqProofs only [hc,go_sem,simprocAttr,RS,r_form0,x])
 rw [RL_eq]
 simp -implicitDefEqProofs only [go_sem,simprocAttr,x,Nat.zero_le,ne_eq,not_true_eq_false,or_self]
 repeat' ((first | apply split_cond | apply split_yes | apply split_no)<;>intro hc<;>simp -implicitDefEqProofs only [hc,go_sem,simprocAttr,x,Nat.zero_le,ne_eq,not_true_eq_false,or_self])
 rw [RL_eq]
 simp -implicitDefEqProofs only [go_sem,simprocAttr,x,Nat.zero_le,ne_eq,not_true_eq_false,or_self]
 repeat' ((first | apply split_cond | apply split_yes | apply split_no)<;>intro hc<;>simp -implicitDefEqProofs only [hc,go_sem,simprocAttr,x,Nat.zero_le,ne_eq,not_true_eq_false,or_self])
theorem r_plain1 (c:List AV) (T ps:List (List AV)) (a w:Bool):R K (.call 291 [.ptr 0 0,.agg (nd 4 17 0 0 [c]),.rows [[I 2]]] (RS T ps a w))=some (.tup [I 2,I 0],RS T ps a w):=by
 have x:=r_leaf1 c ps
 have y:=r_form1 c
 have z:=r_opKind c
 rw [call_291]
 simp -implicitDefEqProofs only [go_sem,simprocAttr,Tryz.f291,RS,y,x]
 repeat' ((first | apply split_cond | apply split_yes | apply split_no)<;>intro hc<;>simp -implicitDefEqProofs only [hc,go_sem,simprocAttr,RS,y,x])
 rw [RL_eq]
 simp -implicitDefEqProofs only [go_sem,simprocAttr,x,z,Nat.zero_le,ne_eq,not_true_eq_false,or_self]
 repeat' ((first | apply split_cond | apply split_yes | apply split_no)<;>intro hc<;>simp -implicitDefEqProofs only [hc,go_sem,simprocAttr,x,z,Nat.zero_le,ne_eq,not_true_eq_false,or_self])
 rw [RL_eq]
 simp -implicitDefEqProofs only [go_sem,simprocAttr,x,z,Nat.zero_le,ne_eq,not_true_eq_false,or_self]
 repeat' ((first | apply split_cond | apply split_yes | apply split_no)<;>intro hc<;>simp -implicitDefEqProofs only [hc,go_sem,simprocAttr,x,z,Nat.zero_le,ne_eq,not_true_eq_false,or_self])
theorem r_plain2 (args:List (List AV)) (hl:args.length≤1000000) (h2:2≤args.length) (T ps:List (List AV)) (a w:Bool):R K (.call 291 [.ptr 0 0,.agg (nd 6 0 0 0 args),.rows (twos args.length)] (RS T ps a w))=some (.tup [I 1,I 0],RS T ps a w):=by
 have x:=r_leaf2 args ps
 have y:=r_form2 args hl h2
 have z:=r_caseKind args args.length hl (by omega)
 rw [call_291]
 simp -implicitDefEqProofs only [go_sem,simprocAttr,Tryz.f291,RS,y,x]
 repeat' ((first | apply split_cond | apply split_yes | apply split_no)<;>intro hc<;>simp -implicitDefEqProofs only [hc,go_sem,simprocAttr,RS,y,x])
 rw [RL_eq]
 simp -implicitDefEqProofs only [go_sem,simprocAttr,x,z,Nat.zero_le,ne_eq,not_true_eq_false,or_self]
 repeat' ((first | apply split_cond | apply split_yes | apply split_no)<;>intro hc<;>simp -implicitDefEqProofs only [hc,go_sem,simprocAttr,x,z,Nat.zero_le,ne_eq,not_true_eq_false,or_self])
 rw [RL_eq]
 simp -implicitDefEqProofs only [go_sem,simprocAttr,x,z,Nat.zero_le,ne_eq,not_true_eq_false,or_self]
 repeat' ((first | apply split_cond | apply split_yes | apply split_no)<;>intro hc<;>simp -implicitDefEqProofs only [hc,go_sem,simprocAttr,x,z,Nat.zero_le,ne_eq,not_true_eq_false,or_self])
theorem r_part (k op vk vn:Int) (h9:(k==9)=false) (h10:(k==10)=false) (args:List (List AV)) (hl:args.length≤1000000) (ih:∀ a∈args,ChR a 2) (r:Int) {B:Nat} (hw:Wr (nd k op vk vn args) B) (hB:B≤38000000)
  (hs:R K (.call 290 [.agg (nd k op vk vn args)] [])=some (.tup [I 0,.bool false],[]))
  (hp:∀ (T ps:List (List AV)) (a w:Bool),R K (.call 291 [.ptr 0 0,.agg (nd k op vk vn args),.rows (twos args.length)] (RS T ps a w))=some (.tup [I r,I 0],RS T ps a w)):ChR (nd k op vk vn args) r:=by
 refine ⟨nd_fl _ _ _ _ _,fun T ps a w=>?_⟩
 have x1:=keyOf_ok hw hB
 have x2:=r_inner k op vk vn args h9 h10 hl 2 ih T ps a w
 have x3:=hp T ps a w
 have x4:∀ t:List UInt8,R K (.call 283 [.nils,.str t] [])=some (I (-1),[]):=fun t=>by
  rw [call_283]
  simp -implicitDefEqProofs only [go_sem,simprocAttr,Tryz.f283]
  repeat' ((first | apply split_cond | apply split_yes | apply split_no)<;>intro hc<;>simp -implicitDefEqProofs only [hc,go_sem,simprocAttr])
  rw [RL_eq]
  simp -implicitDefEqProofs only [go_sem,simprocAttr]
  repeat' ((first | apply split_cond | apply split_yes | apply split_no)<;>intro hc<;>simp -implicitDefEqProofs only [hc,go_sem,simprocAttr])
 have x4':∀ t:List UInt8,R K (.call 283 [.rows [],.str t] [])=some (I (-1),[]):=fun t=>by
  rw [call_283]
  simp -implicitDefEqProofs only [go_sem,simprocAttr,Tryz.f283]
  repeat' ((first | apply split_cond | apply split_yes | apply split_no)<;>intro hc<;>simp -implicitDefEqProofs only [hc,go_sem,simprocAttr])
  rw [RL_eq]
  simp -implicitDefEqProofs only [go_sem,simprocAttr]
  repeat' ((first | apply split_cond | apply split_yes | apply split_no)<;>intro hc<;>simp -implicitDefEqProofs only [hc,go_sem,simprocAttr])
 simp only [RS] at x2 x3 ⊢
 rw [call_194]
 simp -implicitDefEqProofs only [go_sem,simprocAttr,Tryz.f194]
 repeat' ((first | apply split_cond | apply split_yes | apply split_no)<;>intro hc<;>simp -implicitDefEqProofs only [hc,go_sem,simprocAttr])
 rw [RL_eq]
 simp -implicitDefEqProofs only [go_sem,simprocAttr,x1,x4,x4']
 repeat' ((first | apply split_cond | apply split_yes | apply split_no)<;>intro hc<;>simp -implicitDefEqProofs only [hc,go_sem,simprocAttr,x1,x4,x4'])
 rw [RL_eq]
 simp -implicitDefEqProofs only [go_sem,simprocAttr,x2,hs,x3]
 repeat' ((first | apply split_cond | apply split_yes | apply split_no)<;>intro hc<;>simp -implicitDefEqProofs only [hc,go_sem,simprocAttr,x2,hs,x3])
theorem rh_leaf:ChR leafX 2:=r_part 1 0 2 1 rfl rfl [] (by simp) (by simp) 2 wr_leaf (by omega) (r_sqlForm0 _) (fun T ps a w=>r_plain0 T ps a w)
theorem rh_neg:∀ n:Nat,n≤1000→ChR (negX n) 2
 | 0,_=>rh_leaf
 | n+1,h=>r_part 4 17 0 0 rfl rfl [negX n] (by simp) (fun a ha=>by
   simp only [List.mem_singleton] at ha
   subst ha
   exact rh_neg n (by omega)) 2 (wr_neg (n+1)) (by omega) (r_sqlForm1 _) (fun T ps a w=>r_plain1 _ T ps a w)
theorem rh_in (n:Nat) (hn:n≤100000) (h2:2≤n):ChR (inX n) 1:=by
 have hl:(List.replicate n leafX).length=n:=List.length_replicate
 exact r_part 6 0 0 0 rfl rfl (List.replicate n leafX) (by omega) (fun a ha=>by
  rw [List.eq_of_mem_replicate ha];exact rh_leaf) 1 (wr_in n hn) (by omega) (r_sqlForm2 _) (fun T ps a w=>r_plain2 _ (by omega) (by omega) T ps a w)
theorem na_leaf:NoAg 167 leafX:=c_hasAgg 1 0 2 1 rfl [] (by simp) (by simp) (by simp)
theorem na_neg:∀ n:Nat,NoAg 167 (negX n)
 | 0=>na_leaf
 | n+1=>c_hasAgg 4 17 0 0 rfl [negX n] (by simp) (fun a ha=>by
   simp only [List.mem_singleton] at ha
   subst ha
   exact (ch_neg n).1) (fun a ha=>by
   simp only [List.mem_singleton] at ha
   subst ha
   exact na_neg n)
theorem na_in (n:Nat) (hn:n≤100000):NoAg 167 (inX n):=c_hasAgg 6 0 0 0 rfl _ (by rw [List.length_replicate];omega) (fun a ha=>by rw [List.eq_of_mem_replicate ha];exact nd_fl _ _ _ _ _) (fun a ha=>by rw [List.eq_of_mem_replicate ha];exact na_leaf)
theorem ra_leaf:NoAg 198 leafX:=r_hasAgg 1 0 2 1 rfl [] (by simp) (by simp) (by simp)
theorem ra_neg:∀ n:Nat,NoAg 198 (negX n)
 | 0=>ra_leaf
 | n+1=>r_hasAgg 4 17 0 0 rfl [negX n] (by simp) (fun a ha=>by
   simp only [List.mem_singleton] at ha
   subst ha
   exact (ch_neg n).1) (fun a ha=>by
   simp only [List.mem_singleton] at ha
   subst ha
   exact ra_neg n)
theorem ra_in (n:Nat) (hn:n≤100000):NoAg 198 (inX n):=r_hasAgg 6 0 0 0 rfl _ (by rw [List.length_replicate];omega) (fun a ha=>by rw [List.eq_of_mem_replicate ha];exact nd_fl _ _ _ _ _) (fun a ha=>by rw [List.eq_of_mem_replicate ha];exact ra_leaf)
theorem r_expr (c:List AV) (k:Int) (h:ChR c k) (T ps:List (List AV)) (a w:Bool):R K (.call 107 [.ptr 0 0,.agg c,.bool true,.bool true] (RS T ps a w))=some (.tup [I k,I 0],RS T ps true true):=by
 obtain ⟨fc,hp⟩:=h
 have x:=hp T ps true true
 have l:=r_last T ps a w
 have x1:=fc.len
 have xt:c.take 13=c:=by rw [←x1];exact List.take_length
 simp only [RS] at x l ⊢
 rw [call_107]
 simp -implicitDefEqProofs only [go_sem,simprocAttr,Tryz.f107,l,x1,xt,fc.locs,fc.one,fc.conv,fc.ren,fc.pure,x]
 repeat' ((first | apply split_cond | apply split_yes | apply split_no)<;>intro hc<;>simp -implicitDefEqProofs only [hc,go_sem,simprocAttr,l,x1,xt,fc.locs,fc.one,fc.conv,fc.ren,fc.pure,x])
def ItQ (x:List AV):Prop:=∃ nm c k B,x=.str nm::c∧R K (.call 116 [.str nm,.bool true] [])=some (.bool true,[])∧ChR c k∧Wr c B∧B≤38000000
theorem l_items (its:List (List AV)) (hl:its.length≤1000000) (ih:∀ x∈its,ItQ x) (hu:Uniq its) (T ps:List (List AV)):∀ (m j:Nat) (R0 K0:List (List AV)) (a w:Bool),its.length=j+m→R0.length=j→K0.length=j→locsR R0=[]→locsR K0=[]→∃ (R1 K1:List (List AV)) (a1 w1:Bool),(locsR R1=[]∧locsR K1=[]∧R1.length=its.length∧K1.length=its.length)∧∀ (i:Int) (Bo:Code) (ks:List It),i=(j:Int)→Loop Tryz.f110 0 Bo →
  RL K (.run 110 3 (.code Bo::.lp Bo (some ([0,2,4,8,9,23,24,25],[])) 6::.blk 0 6::ks) [(0,.ptr 0 0),(2,.bool false),(4,.ptr 3 0),(8,.own 4 j),(9,.own 5 j),(23,.rows its),(24,I (its.length:Int)),(25,I i)] (RS T ps a w++[.cells (selX its),.rows 2 R0 false,.rows 1 K0 false])) =
  R K (.run 110 3 ks [(0,.ptr 0 0),(2,.bool false),(4,.ptr 3 0),(8,.own 4 its.length),(9,.own 5 its.length)] (RS T ps a1 w1++[.cells (selX its),.rows 2 R1 false,.rows 1 K1 false]))
 | 0,j,R0,K0,a,w,hj,hR,hK,hLR,hLK=>by
  refine ⟨R0,K0,a,w,⟨hLR,hLK,by omega,by omega⟩,fun i Bo ks hi hB=>?_⟩
  subst hi
  have ej:its.length=j:=by omega
  have d:decide ((j:Int) < (j:Int))=false:=decide_eq_false (by omega)
  rw [ej]
  simp only [RS,List.cons_append,List.nil_append]
  unfold Loop at hB
  simp -implicitDefEqProofs only [go_sem,simprocAttr,Tryz.f110,loopOf] at hB
  subst hB
  rw [RL_eq]
  simp -implicitDefEqProofs only [go_sem,simprocAttr,d,hLR,hLK,under]
  repeat' ((first | apply split_cond | apply split_yes | apply split_no)<;>intro hc<;>simp -implicitDefEqProofs only [hc,go_sem,simprocAttr,d,hLR,hLK,under])
 | m+1,j,R0,K0,a,w,hj,hR,hK,hLR,hLK=>by
  obtain ⟨x,hx⟩:=some_at (l:=its) (i:=j) (by omega)
  obtain ⟨nm,c,kd,B,rfl,hnm,hch,hw,hBd⟩:=ih x (List.mem_of_getElem? hx)
  have fc:=hch.1
  have hLR':locsR (R0++[[.str nm,I kd]])=[]:=by rw [locsR_ap2,hLR];rfl
  have hLK':locsR (K0++[[.str (keyOf c)]])=[]:=by rw [locsR_ap2,hLK];rfl
  obtain ⟨R1,K1,a1,w1,hh,z⟩:=l_items its hl ih hu T ps m (j+1) (R0++[[.str nm,I kd]]) (K0++[[.str (keyOf c)]]) true true (by omega) (by rw [List.length_append];simp [hR]) (by rw [List.length_append];simp [hK]) hLR' hLK'
  refine ⟨R1,K1,a1,w1,hh,fun i Bo ks hi hB=>?_⟩
  subst hi
  have hB':=hB
  have d:decide ((j:Int) < (its.length:Int))=true:=decide_eq_true (by omega)
  have h7:=next_id (i:=j) (n:=its.length) (by omega) (by omega)
  have hg:=at_get hx
  have x1:=fc.len
  have xt:c.take 13=c:=by rw [←x1];exact List.take_length
  have room1:((j+1)*17≤roomMax)=True:=eq_true (by unfold roomMax;omega)
  have room2:((j+1)*25≤roomMax)=True:=eq_true (by unfold roomMax;omega)
  have room3:((j+1)*9≤roomMax)=True:=eq_true (by unfold roomMax;omega)
  have cs:((0:Int)≤(j:Int)∧(j:Int)≤(its.length:Int))=True:=eq_true (by omega)
  have hA:allLen 14 its=true:=allLen_of (fun x hx=>by
   obtain ⟨n2,c2,k2,B2,rfl,_,h2,_⟩:=ih x hx
   simp [h2.1.len])
  have y2:=c_noneN2 nm c fc (its.take j) (by rw [List.length_take];omega) (hu j nm c hx)
  have y3:=keyOf_ok hw hBd
  have y4:=r_expr c kd hch T ps a w
  have z:=z _ Bo ks rfl hB'
  simp only [RS,List.cons_append,List.nil_append] at y4 z ⊢
  unfold Loop at hB
  simp -implicitDefEqProofs only [go_sem,simprocAttr,Tryz.f110,loopOf] at hB
  subst hB
  rw [RL_eq]
  simp -implicitDefEqProofs only [go_sem,simprocAttr,d,h7,hg,x1,xt,hnm,fc.locs,fc.one,fc.conv,fc.ren,fc.pure,y2,y3,y4,hR,hK,room1,room2,room3,hLR',hLK',under,cs,hA,Int.toNat_natCast,Nat.sub_zero,List.drop_zero]
  repeat' ((first | apply split_cond | apply split_yes | apply split_no)<;>intro hc<;>simp -implicitDefEqProofs only [hc,go_sem,simprocAttr,d,h7,hg,x1,xt,hnm,fc.locs,fc.one,fc.conv,fc.ren,fc.pure,y2,y3,y4,hR,hK,room1,room2,room3,hLR',hLK',under,cs,hA,Int.toNat_natCast,Nat.sub_zero,List.drop_zero])
  rw [z]
attribute [go_sem] settle settleBy List.range_zero List.contains_cons List.contains_nil
theorem r_items (its:List (List AV)) (hl:its.length≤1000000) (ih:∀ x∈its,ItQ x) (hu:Uniq its) (T ps:List (List AV)):∃ (R1:List (List AV)) (a w:Bool),R K (.call 110 [.ptr 0 0,.agg (selX its),.bool false] (RS T ps false false))=some (.tup [.rows R1,I 0],RS T ps a w):=by
 obtain ⟨R1,K1,a,w,⟨h1,h2,h3,h4⟩,z⟩:=l_items its hl ih hu T ps its.length 0 [] [] false false (by omega) rfl rfl rfl rfl
 refine ⟨R1,a,w,?_⟩
 have z:=fun Bo ks hB=>z 0 Bo ks rfl hB
 simp only [RS,List.cons_append,List.nil_append] at z ⊢
 rw [call_110]
 simp -implicitDefEqProofs only [go_sem,simprocAttr,Tryz.f110]
 repeat' ((first | apply split_cond | apply split_yes | apply split_no)<;>intro hc<;>simp -implicitDefEqProofs only [hc,go_sem,simprocAttr])
 rw [z _ _ (by rfl)]
 simp -implicitDefEqProofs only [go_sem,simprocAttr]
 repeat' ((first | apply split_cond | apply split_yes | apply split_no)<;>intro hc<;>simp -implicitDefEqProofs only [hc,go_sem,simprocAttr])
 rw [RL_eq]
 simp -implicitDefEqProofs only [go_sem,simprocAttr]
 repeat' ((first | apply split_cond | apply split_yes | apply split_no)<;>intro hc<;>simp -implicitDefEqProofs only [hc,go_sem,simprocAttr])
 rw [RL_eq]
 simp -implicitDefEqProofs only [go_sem,simprocAttr,h1,h3,true_or,or_true,and_true,or_self,if_true]
 repeat' ((first | apply split_cond | apply split_yes | apply split_no)<;>intro hc<;>simp -implicitDefEqProofs only [hc,go_sem,simprocAttr,h1,h3,true_or,or_true,and_true,or_self,if_true])
theorem r_query (its T ps:List (List AV)) (h0:its.length≠0) (hl:its.length≤1000000) (ih:∀ x∈its,ItQ x) (hn:∀ x∈its,ItN x) (hu:Uniq its):∃ R1:List (List AV),R K (.call 47 [.ptr 0 0,.agg (selX its)] [.cells [.rows T,.rows ps,.nils]])=some (.tup [.rows R1,I 0],[.cells [.rows T,.rows ps,.nils]]):=by
 obtain ⟨R1,a,w,y⟩:=r_items its hl ih hu T ps
 refine ⟨R1,?_⟩
 have g:=r_grouped its hl hn
 have d:(((its.length:Nat):Int)==0)=false:=by simpa using h0
 have s:=r_srcs its T ps false false
 simp only [RS] at s y
 rw [call_47]
 simp -implicitDefEqProofs only [go_sem,simprocAttr,Tryz.f47,d,k_rw1,k_rw2,k_clip,g,s,Nat.zero_le,kwB,rm9,wrB,orBuild,buildN,sliceN,piecesN,ne_eq,not_false_eq_true,false_or,or_true,reduceCtorEq]
 repeat' ((first | apply split_cond | apply split_yes | apply split_no)<;>intro hc<;>simp -implicitDefEqProofs only [hc,go_sem,simprocAttr,d,k_rw1,k_rw2,k_clip,g,s,Nat.zero_le,kwB,rm9,wrB,orBuild,buildN,sliceN,piecesN,ne_eq,not_false_eq_true,false_or,or_true,reduceCtorEq])
 rw [RL_eq]
 simp -implicitDefEqProofs only [go_sem,simprocAttr,Nat.zero_le]
 repeat' ((first | apply split_cond | apply split_yes | apply split_no)<;>intro hc<;>simp -implicitDefEqProofs only [hc,go_sem,simprocAttr,Nat.zero_le])
 rw [RL_eq]
 simp -implicitDefEqProofs only [go_sem,simprocAttr,g]
 repeat' ((first | apply split_cond | apply split_yes | apply split_no)<;>intro hc<;>simp -implicitDefEqProofs only [hc,go_sem,simprocAttr,g])
 rw [RL_eq]
 simp -implicitDefEqProofs only [go_sem,simprocAttr,y]
 repeat' ((first | apply split_cond | apply split_yes | apply split_no)<;>intro hc<;>simp -implicitDefEqProofs only [hc,go_sem,simprocAttr,y])
theorem k_rschema:R K (.call 43 [smallX] [])=some (I 0,[]):=R_of_runN (n:=8000) (by kernel_rfl)
theorem k_rw7:R K (.call 45 [I 1,I 1,I 4] [])=some (.bool true,[]):=R_of_runN (n:=60) (by kernel_rfl)
theorem k_rw8:R K (.call 45 [I 2,I 1,I 4] [])=some (.bool true,[]):=R_of_runN (n:=60) (by kernel_rfl)
theorem r_stForm (ps its:List (List AV)):R K (.call 46 [stX ps its] [])=some (.bool true,[]):=by
 rw [call_46]
 simp -implicitDefEqProofs only [go_sem,simprocAttr,Tryz.f46,beq_self_eq_true,bne]
 repeat' ((first | apply split_cond | apply split_yes | apply split_no)<;>intro hc<;>simp -implicitDefEqProofs only [hc,go_sem,simprocAttr,beq_self_eq_true,bne])
theorem l_head (n:Nat) (hn:n≤1000000) (its:List (List AV)) (S:List AV) (qS:Qt S) (ks:List It):∀ (m j:Nat) (i:Int) (Bo:Code),Loop Tryz.f25 0 Bo→i=(j:Int)→n=j+m →
  RL K (.run 25 0 (.code Bo::.lp Bo (some ([2,3,26,27,28],[])) 2::.blk 0 2::ks) [(2,.ptr 0 0),(3,.ptr 1 0),(26,.rows (twos n)),(27,I (n:Int)),(28,I i)] [.cells S,.cells [I 1,.rows (twos n),.rows [selX its],.str [],.str [],.rows [],.rows [],.rows [],.rows []]]) =
  R K (.run 25 0 ks [(2,.ptr 0 0),(3,.ptr 1 0)] [.cells S,.cells [I 1,.rows (twos n),.rows [selX its],.str [],.str [],.rows [],.rows [],.rows [],.rows []]])
 | 0,j,i,Bo,hB,hi,hj=>by
  subst hi
  have d:decide ((j:Int) < (n:Int))=false:=decide_eq_false (by omega)
  unfold Loop at hB
  simp -implicitDefEqProofs only [go_sem,simprocAttr,Tryz.f25,loopOf] at hB
  subst hB
  rw [RL_eq]
  simp -implicitDefEqProofs only [go_sem,simprocAttr,d,qS.locs]
  repeat' ((first | apply split_cond | apply split_yes | apply split_no)<;>intro hc<;>simp -implicitDefEqProofs only [hc,go_sem,simprocAttr,d,qS.locs])
 | m+1,j,i,Bo,hB,hi,hj=>by
  subst hi
  have hB':=hB
  have d:decide ((j:Int) < (n:Int))=true:=decide_eq_true (by omega)
  have h7:=next_id (i:=j) (n:=n) (by omega) (by omega)
  have hg:=twos_at (n:=n) (j:=j) (by omega)
  have ih:=l_head n hn its S qS ks m (j+1) _ Bo hB' rfl (by omega)
  unfold Loop at hB
  simp -implicitDefEqProofs only [go_sem,simprocAttr,Tryz.f25,loopOf] at hB
  subst hB
  rw [RL_eq]
  simp -implicitDefEqProofs only [go_sem,simprocAttr,d,h7,hg,k_rw8,qS.locs]
  repeat' ((first | apply split_cond | apply split_yes | apply split_no)<;>intro hc<;>simp -implicitDefEqProofs only [hc,go_sem,simprocAttr,d,h7,hg,k_rw8,qS.locs])
  rw [ih]
theorem r_Fault_large (n:Nat) (its:List (List AV)) (h:R K (.call 44 [stX (twos n) its] [])=some (.bool true,[])):R K (.call 14 [smallX,stX (twos n) its] [])=some (I 2,[]):=by
 have ks:=k_rschema
 have x:R K (.call 25 [smallX,stX (twos n) its] [])=some (.tup [.rows [],I 2],[]):=by
  rw [call_25]
  simp -implicitDefEqProofs only [go_sem,simprocAttr,Tryz.f25,ks,h]
  repeat' ((first | apply split_cond | apply split_yes | apply split_no)<;>intro hc<;>simp -implicitDefEqProofs only [hc,go_sem,simprocAttr,ks,h])
 rw [call_14]
 simp -implicitDefEqProofs only [go_sem,simprocAttr,Tryz.f14,x]
 repeat' ((first | apply split_cond | apply split_yes | apply split_no)<;>intro hc<;>simp -implicitDefEqProofs only [hc,go_sem,simprocAttr,x])
theorem r_Fault_ok (n:Nat) (hn:n≤1000000) (its:List (List AV)) (h0:its.length≠0) (hl:its.length≤1000000) (ih:∀ x∈its,ItQ x) (hN:∀ x∈its,ItN x) (hu:Uniq its) (h:R K (.call 44 [stX (twos n) its] [])=some (.bool false,[])):R K (.call 14 [smallX,stX (twos n) its] [])=some (I 0,[]):=by
 have ks:=k_rschema
 have qS:Qt smallC:=⟨rfl,fun _=>rfl⟩
 have lk:=fun Bo ks hB=>l_head n hn its smallC qS ks n 0 0 Bo hB rfl (by omega)
 obtain ⟨R1,y⟩:=r_query its [[.str [97],.lit [[.str [105,100],I 2,.bool false,I 0,I 0,.str []]],.lit [[.str [105,100]]],.nils,.nils]] (twos n) h0 hl ih hN hu
 have w:=r_stForm (twos n) its
 have x:R K (.call 25 [smallX,stX (twos n) its] [])=some (.tup [.rows R1,I 0],[]):=by
  rw [call_25]
  simp -implicitDefEqProofs only [go_sem,simprocAttr,Tryz.f25,ks,h,w,k_rw7,List.length_replicate]
  repeat' ((first | apply split_cond | apply split_yes | apply split_no)<;>intro hc<;>simp -implicitDefEqProofs only [hc,go_sem,simprocAttr,ks,h,w,k_rw7,List.length_replicate])
  rw [lk _ _ (by rfl)]
  simp -implicitDefEqProofs only [go_sem,simprocAttr,y]
  repeat' ((first | apply split_cond | apply split_yes | apply split_no)<;>intro hc<;>simp -implicitDefEqProofs only [hc,go_sem,simprocAttr,y])
 rw [call_14]
 simp -implicitDefEqProofs only [go_sem,simprocAttr,Tryz.f14,x]
 repeat' ((first | apply split_cond | apply split_yes | apply split_no)<;>intro hc<;>simp -implicitDefEqProofs only [hc,go_sem,simprocAttr,x])
def ItA (m d:Nat) (x:List AV):Prop:=∃ nm c k B,x=.str nm::c∧(Low nm∧R K (.call 116 [.str nm,.bool true] [])=some (.bool true,[]))∧(SzP c m d∧SzR c m d)∧(ChP c k∧ChR c k)∧(NoAg 167 c∧NoAg 198 c)∧Wr c B∧B≤38000000
theorem big_eq (n m d p:Nat) (h0:n≠0):(!bigS n m d&&decide (p≤60))=!bigR n m d p:=by
 have h:(bigS n m d||decide (60 < p))=bigR n m d p:=by
  rw [Bool.eq_iff_iff]
  unfold bigS bigR
  rw [Bool.or_eq_true,bigL_iff]
  simp only [Bool.or_eq_true,decide_eq_true_eq]
  constructor
  ·rintro ((h | ⟨_,h | h⟩) | h)
   ·exact .inl (.inl (.inl h))
   ·exact .inl (.inl (.inr (by omega)))
   ·exact .inl (.inr (by omega))
   ·exact .inr h
  ·rintro (((h | h) | h) | h)
   ·exact .inl (.inl h)
   ·exact .inl (.inr ⟨h0,.inl (by omega)⟩)
   ·exact .inl (.inr ⟨h0,.inr (by omega)⟩)
   ·exact .inr h
 have e:decide (p≤60)=!decide (60 < p):=by
  by_cases h:p≤60
  ·simp [h]
  ·simp [h];omega
 rw [←h,e,Bool.not_or]
theorem agree (n:Nat) (hn:n≤1000000) (its:List (List AV)) (h0:its.length≠0) (hl:its.length≤1000000) (m d:Nat) (hm:its.length*(m+1)≤700000) (hd:d≤700000) (ih:∀ x∈its,ItA m d x) (hu:Uniq its):∃ e:Int,R K (.call 12 [smallX,stX (twos n) its] [])=some (I e,[])∧R K (.call 14 [smallX,stX (twos n) its] [])=some (I e,[]):=by
 have s:=c_small (twos n) its hl m d hm hd (fun x hx=>by
  obtain ⟨nm,c,k,B,e,_,⟨h,_⟩,_⟩:=ih x hx
  exact ⟨nm,c,e,h⟩)
 have t:=r_tooBig (twos n) its (by rw [List.length_replicate];exact hn) h0 hl m d hm hd (fun x hx=>by
  obtain ⟨nm,c,k,B,e,_,⟨_,h⟩,_⟩:=ih x hx
  exact ⟨nm,c,e,h⟩)
 rw [List.length_replicate] at s t
 rw [big_eq _ _ _ _ h0] at s
 rcases hb:bigR its.length m d n with _ | _
 ·rw [hb] at s t
  refine ⟨0,?_,?_⟩
  ·exact c_Check_ok n hn its h0 hl (fun x hx=>by
    obtain ⟨nm,c,k,B,e,⟨h1,_⟩,_,⟨h3,_⟩,⟨h4,_⟩,_⟩:=ih x hx
    exact ⟨nm,c,k,e,h1,h3,h4⟩) hu s
  ·exact r_Fault_ok n hn its h0 hl (fun x hx=>by
    obtain ⟨nm,c,k,B,e,⟨_,h1⟩,_,⟨_,h3⟩,_,hw,hB⟩:=ih x hx
    exact ⟨nm,c,k,B,e,h1,h3,hw,hB⟩) (fun x hx=>by
    obtain ⟨nm,c,k,B,e,_,_,⟨_,h3⟩,⟨_,h4⟩,_⟩:=ih x hx
    exact ⟨nm,c,e,h3.1,h4⟩) hu t
 ·rw [hb] at s t
  exact ⟨2,c_Check_large n its s,r_Fault_large n its t⟩
theorem uniq_one (x:List AV):Uniq [x]:=fun j nm c h y hy=>by
 match j,h with
 | 0,_=>simp at hy
 | j+1,h=>simp at h
def nmX (i:Nat):List UInt8:=118::(List.replicate (i % 30) 118++[UInt8.ofNat (97+i / 30)])
def nmsX (k:Nat):List (List UInt8):=[118]::(List.range k).map nmX
def itsX (k:Nat):List (List AV):=(nmsX k).map fun nm=>itX nm leafX
theorem nms_low:∀ nm∈nmsX 70,nm≠[]∧nm.length≤40∧∀ b∈nm,lowB b=true:=by decide +kernel
theorem nms_nodup:(nmsX 70).Nodup:=by decide +kernel
def isTr:Res→Bool
 | some (.bool true,[])=>true
 | _=>false
theorem isTr_eq {r:Res} (h:isTr r=true):r=some (.bool true,[]):=by
 unfold isTr at h
 split at h
 ·rfl
 ·simp at h
theorem nms_named0:((nmsX 70).all fun nm=>isTr (runN K 300 (.call 116 [.str nm,.bool true] [])))=true:=by kernel_rfl
theorem nms_named:∀ nm∈nmsX 70,R K (.call 116 [.str nm,.bool true] [])=some (.bool true,[]):=fun nm h=>R_of_runN (isTr_eq (List.all_eq_true.1 nms_named0 nm h))
theorem nms_sub {k:Nat} (hk:k≤70):(nmsX k).Sublist (nmsX 70):=by
 unfold nmsX
 refine List.Sublist.cons_cons _ (List.Sublist.map _ ?_)
 have:List.range k=(List.range 70).take k:=by rw [List.take_range,Nat.min_eq_left hk]
 rw [this]
 exact List.take_sublist _ _
theorem uniq_its {k:Nat} (hk:k≤70):Uniq (itsX k):=fun j nm c h y hy=>by
 have nd:(nmsX k).Nodup:=List.Pairwise.sublist (nms_sub hk) nms_nodup
 have np:=List.pairwise_iff_getElem.1 nd
 unfold itsX at h hy
 rw [List.getElem?_map] at h
 rcases hj:(nmsX k)[j]? with _ | n1
 ·rw [hj] at h;simp at h
 ·rw [hj] at h
  simp only [Option.map_some,Option.some.injEq,List.cons.injEq,AV.str.injEq] at h
  obtain ⟨rfl,_⟩:=h
  obtain ⟨hj1,hj2⟩:=List.getElem?_eq_some_iff.1 hj
  rw [←List.map_take] at hy
  obtain ⟨n2,h2,rfl⟩:=List.mem_map.1 hy
  obtain ⟨i,hi,h3⟩:=List.mem_take_iff_getElem.1 h2
  refine ⟨n2,leafX,rfl,nd_fl _ _ _ _ _,fun e=>?_⟩
  have:=np i j (by omega) hj1 (by omega)
  rw [h3,hj2] at this
  exact this e
theorem its_all {k:Nat} (hk:k≤70):∀ x∈itsX k,ItA 1 0 x:=fun x hx=>by
 obtain ⟨nm,h,rfl⟩:=List.mem_map.1 hx
 have h70:=(nms_sub hk).subset h
 exact ⟨nm,leafX,2,60,rfl,⟨nms_low nm h70,nms_named nm h70⟩,⟨sz_leaf,rz_leaf⟩,⟨ch_leaf,rh_leaf⟩,⟨na_leaf,ra_leaf⟩,wr_leaf,by omega⟩
theorem its_len (k:Nat):(itsX k).length=k+1:=by simp [itsX,nmsX]
theorem agree1 {k:Nat} (hk:k≤70):∃ e:Int,R K (.call 12 [smallX,stX (twos 0) (itsX k)] [])=some (I e,[])∧R K (.call 14 [smallX,stX (twos 0) (itsX k)] [])=some (I e,[]):=by
 have hl:=its_len k
 exact agree 0 (by omega) (itsX k) (by omega) (by omega) 1 0 (by omega) (by omega) (its_all hk) (uniq_its hk)
theorem v_low:Low [118]:=by unfold Low;decide +kernel
theorem v_named:R K (.call 116 [.str [118],.bool true] [])=some (.bool true,[]):=nms_named [118] (by decide +kernel)
theorem agree0 {n:Nat} (hn:n≤1000):∃ e:Int,R K (.call 12 [smallX,stX (twos 0) [itX [118] (negX n)]] [])=some (I e,[])∧R K (.call 14 [smallX,stX (twos 0) [itX [118] (negX n)]] [])=some (I e,[]) :=
 agree 0 (by omega) _ (by simp) (by simp) (n+1) n (by simp;omega) (by omega) (fun x hx=>by
  simp only [List.mem_singleton] at hx
  subst hx
  exact ⟨[118],negX n,2,_,rfl,⟨v_low,v_named⟩,⟨sz_neg n hn,rz_neg n hn⟩,⟨ch_neg n,rh_neg n hn⟩,⟨na_neg n,ra_neg n⟩,wr_neg n,by omega⟩) (uniq_one _)
theorem agree2 {n:Nat} (h2:2≤n) (hn:n≤100000):∃ e:Int,R K (.call 12 [smallX,stX (twos 0) [itX [118] (inX n)]] [])=some (I e,[])∧R K (.call 14 [smallX,stX (twos 0) [itX [118] (inX n)]] [])=some (I e,[]) :=
 agree 0 (by omega) _ (by simp) (by simp) (1+n) 1 (by simp;omega) (by omega) (fun x hx=>by
  simp only [List.mem_singleton] at hx
  subst hx
  exact ⟨[118],inX n,1,_,rfl,⟨v_low,v_named⟩,⟨sz_in n hn (by omega),rz_in n hn (by omega)⟩,⟨ch_in n hn h2,rh_in n hn h2⟩,⟨na_in n hn,ra_in n hn⟩,wr_in n hn,by omega⟩) (uniq_one _)
theorem agree3 {n:Nat} (hn:n≤1000):∃ e:Int,R K (.call 12 [smallX,stX (twos n) [itX [118] leafX]] [])=some (I e,[])∧R K (.call 14 [smallX,stX (twos n) [itX [118] leafX]] [])=some (I e,[]) :=
 agree n (by omega) _ (by simp) (by simp) 1 0 (by simp) (by omega) (fun x hx=>by
  simp only [List.mem_singleton] at hx
  subst hx
  exact ⟨[118],leafX,2,60,rfl,⟨v_low,v_named⟩,⟨sz_leaf,rz_leaf⟩,⟨ch_leaf,rh_leaf⟩,⟨na_leaf,ra_leaf⟩,wr_leaf,by omega⟩) (uniq_one _)
theorem k_rep (n:Nat) (h:n=59∨n=60∨n=61):R K (.call 10 [.rows [[I 2]],I (n:Int)] [])=some (.rows (twos n),[]):=by
 rcases h with rfl | rfl | rfl
 ·exact R_of_runN (n:=2000) (by kernel_rfl)
 ·exact R_of_runN (n:=2000) (by kernel_rfl)
 ·exact R_of_runN (n:=2000) (by kernel_rfl)
abbrev filX (n k:Nat):List (List AV):=List.replicate k leafX++List.replicate (n - k) zeroE
theorem mkE (h:Heap) (n:Nat) (hn:n≤1000000):makeSliceV Tryz.prog 28 h (.int .i64 (n:Int)) (.int .i64 (n:Int))=some (.own h.length n,h++[.rows 13 (List.replicate n zeroE) true]):=by
 have e:es Tryz.prog 28=some (13,192):=by rfl
 have e2:elemZero Tryz.prog 28=some (.agg zeroE):=by rfl
 unfold makeSliceV
 simp only [if_true,e,e2,makeOf,makeRows,Int.toNat_natCast]
 rw [if_pos ⟨by omega,by unfold roomMax;omega⟩]
 rfl
theorem filX_len {n k:Nat} (h:k≤n):(filX n k).length=n:=by simp [filX];omega
theorem filX_step {n k:Nat} (hk:k≤n) (q:Nat) (hq:q=min k (n - k)):(filX n k).take k++((filX n k).take q)++(filX n k).drop (k+q)=filX n (k+q):=by
 have h1:(filX n k).take k=List.replicate k leafX:=by
  unfold filX
  rw [List.take_append_of_le_length (by simp),List.take_replicate,Nat.min_self]
 have h2:(filX n k).take q=List.replicate q leafX:=by
  unfold filX
  rw [List.take_append_of_le_length (by simp;omega),List.take_replicate,Nat.min_eq_left (by omega)]
 have h3:(filX n k).drop (k+q)=List.replicate (n - (k+q)) zeroE:=by
  unfold filX
  rw [List.drop_append,List.drop_replicate,List.drop_replicate,List.length_replicate]
  have e:k - (k+q)=0:=by omega
  rw [e,List.replicate_zero,List.nil_append]
  congr 1;omega
 rw [h1,h2,h3]
 unfold filX
 rw [List.replicate_append_replicate]
theorem filX_locs (n k:Nat):locsR (filX n k)=[]:=locsR_of (fun x hx=>by
 rcases List.mem_append.1 hx with h | h<;>(rw [List.eq_of_mem_replicate h];rfl))
theorem allLen_take {z:Nat} {l:List (List AV)} (q:Nat) (h:∀ x∈l,x.length=z):allLen z (l.take q)=true:=allLen_of (fun x hx=>h x (List.mem_of_mem_take hx))
theorem l_repE (n:Nat) (h1:1≤n) (hn:n≤100000):∀ (m k:Nat) (X:List (List AV)) (i:Int) (Bo:Code) (ks:List It),1≤k→k≤n→n - k≤m→X=filX n k→i=(k:Int)→Loop Tryz.f9 0 Bo →
  RL K (.run 9 0 (.code Bo::.lp Bo (some ([7,8],[])) 1::.blk 0 1::ks) [(7,.own 0 n),(8,I i)] [.rows 13 X true]) =
  R K (.run 9 0 ks [(7,.own 0 n)] [.rows 13 (filX n n) true])
 | 0,k,X,i,Bo,ks,hk,hkn,hm,hX,hi,hB=>by
  subst hi
  obtain rfl:k=n:=by omega
  have d:decide ((k:Int) < (k:Int))=false:=decide_eq_false (by omega)
  have hL:=filX_locs k k
  have hlen:=filX_len (n:=k) (k:=k) (by omega)
  rw [←hX] at hL hlen ⊢
  unfold Loop at hB
  simp -implicitDefEqProofs only [go_sem,simprocAttr,Tryz.f9,loopOf] at hB
  subst hB
  rw [RL_eq]
  simp -implicitDefEqProofs only [go_sem,simprocAttr,d,hL]
  repeat' ((first | apply split_cond | apply split_yes | apply split_no)<;>intro hc<;>simp -implicitDefEqProofs only [hc,go_sem,simprocAttr,d,hL])
 | m+1,k,X,i,Bo,ks,hk,hkn,hm,hX,hi,hB=>by
  subst hi
  have hB':=hB
  have hL:=filX_locs n k
  have hlen:=filX_len hkn
  by_cases he:k=n
  ·subst he
   have d:decide ((k:Int) < (k:Int))=false:=decide_eq_false (by omega)
   rw [←hX] at hL hlen ⊢
   unfold Loop at hB
   simp -implicitDefEqProofs only [go_sem,simprocAttr,Tryz.f9,loopOf] at hB
   subst hB
   rw [RL_eq]
   simp -implicitDefEqProofs only [go_sem,simprocAttr,d,hL]
   repeat' ((first | apply split_cond | apply split_yes | apply split_no)<;>intro hc<;>simp -implicitDefEqProofs only [hc,go_sem,simprocAttr,d,hL])
  ·have d:decide ((k:Int) < (n:Int))=true:=decide_eq_true (by omega)
   obtain ⟨q,hq⟩:∃ q,q=min k (n - k):=⟨_,rfl⟩
   have st:=filX_step hkn q hq
   have hA:allLen 13 (X.take q)=true:=allLen_take q (fun x hx=>by
    rw [hX] at hx
    rcases List.mem_append.1 hx with h | h<;>(rw [List.eq_of_mem_replicate h];rfl))
   have hq1:(X.take q).length=q:=by rw [List.length_take,hX,hlen];omega
   have z:=l_repE n h1 hn m (k+q) (filX n (k+q)) ((k+q:Nat):Int) Bo ks (by omega) (by omega) (by omega) rfl rfl hB'
   have w:wrapI .i64 ((k:Int)+(q:Int))=((k+q:Nat):Int):=by rw [wrap_id (by omega) (by omega)];rfl
   rw [←hX] at hL hlen st
   unfold Loop at hB
   simp -implicitDefEqProofs only [go_sem,simprocAttr,Tryz.f9,loopOf] at hB
   subst hB
   rw [RL_eq]
   have c1:((0:Int)≤(k:Int)∧(k:Int)≤(n:Int))=True:=eq_true (by omega)
   have c0:((0:Int)≤(k:Int))=True:=eq_true (by omega)
   have c2:((k:Int)≤(n:Int))=True:=eq_true (by omega)
   have c3:(k+(n - k)≤n)=True:=eq_true (by omega)
   have c4:(0 < n - k)=True:=eq_true (by omega)
   have c5:(k≤n)=True:=eq_true hkn
   have hL2:=filX_locs n (k+q)
   simp -implicitDefEqProofs only [go_sem,simprocAttr,d,hL,hlen,hA,hq1,w,c5,←hq,st,hL2,c0,c1,c2,c3,c4,Int.toNat_natCast,Nat.sub_zero]
   repeat' ((first | apply split_cond | apply split_yes | apply split_no)<;>intro hc<;>simp -implicitDefEqProofs only [hc,go_sem,simprocAttr,d,hL,hlen,hA,hq1,w,c5,←hq,st,hL2,c0,c1,c2,c3,c4,Int.toNat_natCast,Nat.sub_zero])
   rw [z]
theorem k_repE (n:Nat) (h1:1≤n) (hn:n≤100000) (m:R K (.call 16 [.int .u64 1,.int .u64 (n:Int)] [])=some (.tup [.int .u64 0,.int .u64 (n:Int)],[])) (w2:wrapI .u64 (n:Int)=n):R K (.call 9 [.rows [leafX],I (n:Int)] [])=some (.rows (List.replicate n leafX),[]):=by
 have d:decide ((n:Int) < 0)=false:=decide_eq_false (by omega)
 have w1:wrapI .u64 1=1:=rfl
 have w3:wrapI .i64 (n:Int)=n:=wrap_id (by omega) (by omega)
 have d2:decide ((9223372036854775807:Int) < (n:Int))=false:=decide_eq_false (by omega)
 have mk:=mkE [] n (by omega)
 have c1:(0 < n)=True:=eq_true (by omega)
 have c2:(1≤n)=True:=eq_true h1
 have hX:leafX::List.drop 1 (List.replicate n zeroE)=filX n 1:=by
  unfold filX
  rw [List.drop_replicate];rfl
 have lk:=fun Bo ks hB=>l_repE n h1 hn (n - 1) 1 (leafX::List.drop 1 (List.replicate n zeroE)) 1 Bo ks (by omega) h1 (by omega) hX rfl hB
 have fin:filX n n=List.replicate n leafX:=by unfold filX;rw [Nat.sub_self,List.replicate_zero,List.append_nil]
 have hl:locsR (List.replicate n leafX)=[]:=by rw [←fin];exact filX_locs n n
 have ha:allLen 13 [leafX]=true:=rfl
 rw [fin] at lk
 rw [call_9]
 simp -implicitDefEqProofs only [go_sem,simprocAttr,Tryz.f9,d,w1,w2,w3,d2,m,mk,c1,c2,ha,List.singleton_append]
 repeat' ((first | apply split_cond | apply split_yes | apply split_no)<;>intro hc<;>simp -implicitDefEqProofs only [hc,go_sem,simprocAttr,d,w1,w2,w3,d2,m,mk,c1,c2,ha,List.singleton_append])
 rw [lk _ _ (by rfl)]
 simp -implicitDefEqProofs only [go_sem,simprocAttr,hl,List.length_replicate,true_or,or_true,and_true,or_self,if_true]
 repeat' ((first | apply split_cond | apply split_yes | apply split_no)<;>intro hc<;>simp -implicitDefEqProofs only [hc,go_sem,simprocAttr,hl,List.length_replicate,true_or,or_true,and_true,or_self,if_true])
theorem k_Constant:R K (.call 4 [.agg [I 2,I 1,.str []]] [])=some (.agg leafX,[]):=R_of_runN (n:=60) (by kernel_rfl)
theorem k_Oper (c:List AV):R K (.call 7 [I 17,.rows [c]] [])=some (.agg (nd 4 17 0 0 [c]),[]):=by
 rw [call_7]
 simp -implicitDefEqProofs only [go_sem,simprocAttr,Tryz.f7]
 repeat' ((first | apply split_cond | apply split_yes | apply split_no)<;>intro hc<;>simp -implicitDefEqProofs only [hc,go_sem,simprocAttr])
theorem k_small:R K (.call 13 [] [])=some (smallX,[]):=by
 rw [call_13]
 simp -implicitDefEqProofs only [go_sem,simprocAttr,Tryz.f13]
 repeat' ((first | apply split_cond | apply split_yes | apply split_no)<;>intro hc<;>simp -implicitDefEqProofs only [hc,go_sem,simprocAttr])
theorem r_sqls:R K (.call 11 [] [])=some (.bool true,[]):=R_prim rfl
abbrev LH (L:List Int) (a:Int) (X:List AV):Heap:=[.cells [LR L,I a],.cells leafX,.rows 14 [X] true,.cells [.bool false,.own 2 1,.nils,.nils,.nils,.nils,.nils,.nils,I (-1),I 0],.cells [I 1,.nils,.nils,.str [],.str [],.nils,.nils,.nils,.nils]]
abbrev LN (L:List Int) (a:Int) (its:List (List AV)):Heap:=[.cells [LR L,I a],.cells leafX,.hole,.cells [.bool false,.rows its,.nils,.nils,.nils,.nils,.nils,.nils,I (-1),I 0],.cells [I 1,.nils,.nils,.str [],.str [],.nils,.nils,.nils,.nils]]
theorem l_neg (L:List Int) (a:Int) (n:Nat) (hn:n≤1000):∀ (m j:Nat) (i:Int) (Bo:Code) (ks:List It),n=j+m→i=(j:Int)→Loop Tryz.f3 1 Bo →
  RL K (.run 3 0 (.code Bo::.lp Bo (some ([5,6,30,31],[])) 5::.blk 1 5::ks) [(5,.ptr 3 0),(6,.ptr 4 0),(30,I (n:Int)),(31,I i)] (LH L a (itX [118] (negX j))))=R K (.run 3 0 ks [(5,.ptr 3 0),(6,.ptr 4 0)] (LN L a [itX [118] (negX n)]))
 | 0,j,i,Bo,ks,hj,hi,hB=>by
  subst hi
  have d:decide ((j:Int) < (n:Int))=false:=decide_eq_false (by omega)
  obtain rfl:n=j:=by omega
  have fx:=(ch_neg n).1
  simp only [LH,LN]
  unfold Loop at hB
  simp -implicitDefEqProofs only [go_sem,simprocAttr,Tryz.f3,loopOf] at hB
  subst hB
  rw [RL_eq]
  simp -implicitDefEqProofs only [go_sem,simprocAttr,d,fx.locs,List.contains_nil]
  repeat' ((first | apply split_cond | apply split_yes | apply split_no)<;>intro hc<;>simp -implicitDefEqProofs only [hc,go_sem,simprocAttr,d,fx.locs,List.contains_nil])
 | m+1,j,i,Bo,ks,hj,hi,hB=>by
  subst hi
  have hB':=hB
  have d:decide ((j:Int) < (n:Int))=true:=decide_eq_true (by omega)
  have h7:=next_id (i:=j) (n:=n) (by omega) (by omega)
  have fx:=(ch_neg j).1
  have x1:=fx.len
  have xt:(negX j).take 13=negX j:=by rw [←x1];exact List.take_length
  have xd:(negX j).drop 13=[]:=List.drop_of_length_le (by omega)
  have r:=k_Oper (negX j)
  have z:=l_neg L a n hn m (j+1) _ Bo ks (by omega) rfl hB'
  simp only [LH,LN] at z ⊢
  unfold Loop at hB
  simp -implicitDefEqProofs only [go_sem,simprocAttr,Tryz.f3,loopOf] at hB
  subst hB
  rw [RL_eq]
  simp -implicitDefEqProofs only [go_sem,simprocAttr,d,h7,x1,xt,xd,fx.locs,fx.one,fx.conv,fx.ren,fx.pure,r]
  repeat' ((first | apply split_cond | apply split_yes | apply split_no)<;>intro hc<;>simp -implicitDefEqProofs only [hc,go_sem,simprocAttr,d,h7,x1,xt,xd,fx.locs,fx.one,fx.conv,fx.ren,fx.pure,r])
  exact z
theorem law_0 (L:List Int) (hL:L.length≤9223372036854775807) (h0:nextS L 0 4=0):R K (.call 3 [LR L] [])=some (.bool true,[]):=by
 have hG:Gd L 0 200000:=⟨by omega,by omega,hL⟩
 have x1:=g_Next hG (by omega) 4
 rw [h0,show (0:Int)+1=1 from rfl] at x1
 have G1:=hG.step 1 150000 (by omega) (by omega)
 obtain ⟨n,hn,x2⟩:=g_Pick G1 (by omega) [75,76,77,78,79] (by decide) (by decide)
 simp only [List.map,show (1:Int)+1=2 from rfl] at x2
 have hb:75≤n∧n≤79:=(by decide:∀ x∈([75,76,77,78,79]:List Int),75≤x∧x≤79) n hn
 obtain ⟨k,rfl⟩:∃ k:Nat,n=(k:Int):=⟨n.toNat,by omega⟩
 have z:=fun Bo ks hB=>l_neg L 2 k (by omega) k 0 0 Bo ks (by omega) rfl hB
 simp only [LH,LN,negX] at z
 obtain ⟨e,c1,c2⟩:=agree0 (n:=k) (by omega)
 rw [show twos 0=[] from rfl] at c1 c2
 have sq:=r_sqls
 have sm:=k_small
 rw [call_3]
 simp -implicitDefEqProofs only [go_sem,simprocAttr,Tryz.f3,x1,x2,k_Constant]
 repeat' ((first | apply split_cond | apply split_yes | apply split_no)<;>intro hc<;>simp -implicitDefEqProofs only [hc,go_sem,simprocAttr,x1,x2,k_Constant])
 rw [z _ _ (by rfl)]
 simp -implicitDefEqProofs only [go_sem,simprocAttr,sq,sm,c1,c2,beq_self_eq_true]
 repeat' ((first | apply split_cond | apply split_yes | apply split_no)<;>intro hc<;>simp -implicitDefEqProofs only [hc,go_sem,simprocAttr,sq,sm,c1,c2,beq_self_eq_true])
theorem law_3 (L:List Int) (hL:L.length≤9223372036854775807) (h0:nextS L 0 4=3):R K (.call 3 [LR L] [])=some (.bool true,[]):=by
 have hG:Gd L 0 200000:=⟨by omega,by omega,hL⟩
 have x1:=g_Next hG (by omega) 4
 rw [h0,show (0:Int)+1=1 from rfl] at x1
 have G1:=hG.step 1 150000 (by omega) (by omega)
 obtain ⟨n,hn,x2⟩:=g_Pick G1 (by omega) [59,60,61] (by decide) (by decide)
 simp only [List.map,show (1:Int)+1=2 from rfl] at x2
 have hb:n=59∨n=60∨n=61:=(by decide:∀ x∈([59,60,61]:List Int),x=59∨x=60∨x=61) n hn
 obtain ⟨k,rfl⟩:∃ k:Nat,n=(k:Int):=⟨n.toNat,by omega⟩
 have rp:=k_rep k (by omega)
 obtain ⟨e,c1,c2⟩:=agree3 (n:=k) (by omega)
 have sq:=r_sqls
 have sm:=k_small
 rw [call_3]
 simp -implicitDefEqProofs only [go_sem,simprocAttr,Tryz.f3,x1,x2,k_Constant,rp,sq,sm,c1,c2,beq_self_eq_true]
 repeat' ((first | apply split_cond | apply split_yes | apply split_no)<;>intro hc<;>simp -implicitDefEqProofs only [hc,go_sem,simprocAttr,x1,x2,k_Constant,rp,sq,sm,c1,c2,beq_self_eq_true])
theorem law_2 (L:List Int) (hL:L.length≤9223372036854775807) (h0:nextS L 0 4=2):R K (.call 3 [LR L] [])=some (.bool true,[]):=by
 have hG:Gd L 0 200000:=⟨by omega,by omega,hL⟩
 have x1:=g_Next hG (by omega) 4
 rw [h0,show (0:Int)+1=1 from rfl] at x1
 have G1:=hG.step 1 150000 (by omega) (by omega)
 obtain ⟨n,hn,x2⟩:=g_Pick G1 (by omega) [11996,11997,11998,12000] (by decide) (by decide)
 simp only [List.map,show (1:Int)+1=2 from rfl] at x2
 have hb:n=11996∨n=11997∨n=11998∨n=12000:=(by decide:∀ x∈([11996,11997,11998,12000]:List Int),x=11996∨x=11997∨x=11998∨x=12000) n hn
 obtain ⟨k,rfl⟩:∃ k:Nat,n=(k:Int):=⟨n.toNat,by omega⟩
 have hk:k=11996∨k=11997∨k=11998∨k=12000:=by omega
 have m:R K (.call 16 [.int .u64 1,.int .u64 (k:Int)] [])=some (.tup [.int .u64 0,.int .u64 (k:Int)],[]):=by
  rcases hk with rfl | rfl | rfl | rfl<;>exact R_of_runN (n:=60) (by kernel_rfl)
 have w2:wrapI .u64 (k:Int)=k:=by
  rcases hk with rfl | rfl | rfl | rfl<;>rfl
 have rp:=k_repE k (by omega) (by omega) m w2
 obtain ⟨e,c1,c2⟩:=agree2 (n:=k) (by omega) (by omega)
 rw [show twos 0=[] from rfl] at c1 c2
 have ei:inX k=nd 6 0 0 0 (List.replicate k leafX):=rfl
 rw [ei] at c1 c2
 have sq:=r_sqls
 have sm:=k_small
 rw [call_3]
 simp -implicitDefEqProofs only [go_sem,simprocAttr,Tryz.f3,x1,x2,k_Constant,rp,sq,sm,c1,c2,beq_self_eq_true]
 repeat' ((first | apply split_cond | apply split_yes | apply split_no)<;>intro hc<;>simp -implicitDefEqProofs only [hc,go_sem,simprocAttr,x1,x2,k_Constant,rp,sq,sm,c1,c2,beq_self_eq_true])
theorem rep118 (c:Nat):Lib.repeatL [118] c=List.replicate c 118:=by
 induction c with
 | zero=>rfl
 | succ c ih=>rw [List.replicate_succ,←ih];rfl
theorem its_succ (j:Nat):itsX (j+1)=itsX j++[itX (nmX j) leafX]:=by
 unfold itsX nmsX
 rw [List.range_succ,List.map_append,List.map_cons,List.map_cons,List.map_append]
 rfl
theorem l_nm (L:List Int) (a:Int) (n:Nat) (hn:n≤70):∀ (m j:Nat) (X:List (List AV)) (i:Int) (Bo:Code) (ks:List It),n=j+m→X=itsX j→i=(j:Int)→Loop Tryz.f3 3 Bo →
  RL K (.run 3 0 (.code Bo::.lp Bo (some ([4,5,6,49,50],[])) 5::.blk 3 5::ks) [(4,.ptr 1 0),(5,.ptr 3 0),(6,.ptr 4 0),(49,I (n:Int)),(50,I i)]
   [.cells [LR L,I a],.cells leafX,.rows 14 X true,.cells [.bool false,.own 2 (j+1),.nils,.nils,.nils,.nils,.nils,.nils,I (-1),I 0],.cells [I 1,.nils,.nils,.str [],.str [],.nils,.nils,.nils,.nils]]) =
  R K (.run 3 0 ks [(5,.ptr 3 0),(6,.ptr 4 0)] (LN L a (itsX n)))
 | 0,j,X,i,Bo,ks,hj,hX,hi,hB=>by
  subst hi
  have d:decide ((j:Int) < (n:Int))=false:=decide_eq_false (by omega)
  obtain rfl:n=j:=by omega
  have hl:locsR X=[]:=by
   rw [hX]
   exact locsR_of (fun x hx=>by obtain ⟨nm,_,rfl⟩:=List.mem_map.1 hx;rfl)
  have hlen:X.length=n+1:=by rw [hX];exact its_len n
  rw [←hX]
  simp only [LN]
  unfold Loop at hB
  simp -implicitDefEqProofs only [go_sem,simprocAttr,Tryz.f3,loopOf] at hB
  subst hB
  rw [RL_eq]
  simp -implicitDefEqProofs only [go_sem,simprocAttr,d,hl,hlen,List.contains_nil]
  repeat' ((first | apply split_cond | apply split_yes | apply split_no)<;>intro hc<;>simp -implicitDefEqProofs only [hc,go_sem,simprocAttr,d,hl,hlen,List.contains_nil])
 | m+1,j,X,i,Bo,ks,hj,hX,hi,hB=>by
  subst hi
  have hB':=hB
  have d:decide ((j:Int) < (n:Int))=true:=decide_eq_true (by omega)
  have h7:=next_id (i:=j) (n:=n) (by omega) (by omega)
  have hl:locsR X=[]:=by
   rw [hX]
   exact locsR_of (fun x hx=>by obtain ⟨nm,_,rfl⟩:=List.mem_map.1 hx;rfl)
  have hlen:X.length=j+1:=by rw [hX];exact its_len j
  have e1:((j:Int).tmod 30)=((j % 30:Nat):Int):=by rw [tm _ _ (by omega)];omega
  have e2:((j:Int).tdiv 30)=((j / 30:Nat):Int):=by rw [td _ _ (by omega)];omega
  have w1:wrapI .i64 ((j % 30:Nat):Int)=((j % 30:Nat):Int):=wrap_id (by omega) (by omega)
  have w2:wrapI .i64 ((j / 30:Nat):Int)=((j / 30:Nat):Int):=wrap_id (by omega) (by omega)
  have s1:(1+j % 30≤strMax)=True:=eq_true (by unfold strMax;omega)
  have w3:wrapI .i64 (97+((j / 30:Nat):Int))=((97+j / 30:Nat):Int):=by rw [wrap_id (by omega) (by omega)];omega
  have en:(Utf8.encode (wrapI .i32 ((97+j / 30:Nat):Int))).data.toList=[UInt8.ofNat (97+j / 30)]:=by
   have hq:j / 30=0∨j / 30=1∨j / 30=2:=by omega
   rcases hq with h | h | h<;>(rw [h];decide +kernel)
  have s2:(j % 30+1+1≤strMax)=True:=eq_true (by unfold strMax;omega)
  have room:((j+1+1)*209≤roomMax)=True:=eq_true (by unfold roomMax;omega)
  have hl2:locsR (X++[itX (nmX j) leafX])=[]:=by rw [locsR_ap2,hl];rfl
  have rp:=p_Repeat [118] (j % 30) (by omega) (by simp)
  rw [rep118] at rp
  have z:=l_nm L a n hn m (j+1) (X++[itX (nmX j) leafX]) _ Bo ks (by omega) (by rw [its_succ,hX]) rfl hB'
  simp only [LN,nmX] at z hl2 ⊢
  unfold Loop at hB
  simp -implicitDefEqProofs only [go_sem,simprocAttr,Tryz.f3,loopOf] at hB
  subst hB
  rw [RL_eq]
  simp -implicitDefEqProofs only [go_sem,simprocAttr,d,h7,hl,hlen,e1,e2,w1,w2,w3,rp,s1,s2,en,room,hl2]
  repeat' ((first | apply split_cond | apply split_yes | apply split_no)<;>intro hc<;>simp -implicitDefEqProofs only [hc,go_sem,simprocAttr,d,h7,hl,hlen,e1,e2,w1,w2,w3,rp,s1,s2,en,room,hl2])
  exact z
theorem law_1 (L:List Int) (hL:L.length≤9223372036854775807) (h0:nextS L 0 4=1):R K (.call 3 [LR L] [])=some (.bool true,[]):=by
 have hG:Gd L 0 200000:=⟨by omega,by omega,hL⟩
 have x1:=g_Next hG (by omega) 4
 rw [h0,show (0:Int)+1=1 from rfl] at x1
 have G1:=hG.step 1 150000 (by omega) (by omega)
 obtain ⟨n,hn,x2⟩:=g_Pick G1 (by omega) [68,69,70] (by decide) (by decide)
 simp only [List.map,show (1:Int)+1=2 from rfl] at x2
 have hb:n=68∨n=69∨n=70:=(by decide:∀ x∈([68,69,70]:List Int),x=68∨x=69∨x=70) n hn
 obtain ⟨k,rfl⟩:∃ k:Nat,n=(k:Int):=⟨n.toNat,by omega⟩
 have z:=fun Bo ks hB=>l_nm L 2 k (by omega) k 0 [itX [118] leafX] 0 Bo ks (by omega) rfl rfl hB
 simp only [LN] at z
 obtain ⟨e,c1,c2⟩:=agree1 (k:=k) (by omega)
 rw [show twos 0=[] from rfl] at c1 c2
 have sq:=r_sqls
 have sm:=k_small
 rw [call_3]
 simp -implicitDefEqProofs only [go_sem,simprocAttr,Tryz.f3,x1,x2,k_Constant]
 repeat' ((first | apply split_cond | apply split_yes | apply split_no)<;>intro hc<;>simp -implicitDefEqProofs only [hc,go_sem,simprocAttr,x1,x2,k_Constant])
 rw [z _ _ (by rfl)]
 simp -implicitDefEqProofs only [go_sem,simprocAttr,sq,sm,c1,c2,beq_self_eq_true]
 repeat' ((first | apply split_cond | apply split_yes | apply split_no)<;>intro hc<;>simp -implicitDefEqProofs only [hc,go_sem,simprocAttr,sq,sm,c1,c2,beq_self_eq_true])
theorem law_sqlLimits (L:List Int) (hL:L.length≤9223372036854775807):R K (.call 3 [LR L] [])=some (.bool true,[]):=by
 have hb:=next_bounds L 0 4 (by omega) (by omega)
 have h:nextS L 0 4=0∨nextS L 0 4=1∨nextS L 0 4=2∨nextS L 0 4=3:=by omega
 rcases h with h | h | h | h
 ·exact law_0 L hL h
 ·exact law_1 L hL h
 ·exact law_2 L hL h
 ·exact law_3 L hL h
end Go.Ab
