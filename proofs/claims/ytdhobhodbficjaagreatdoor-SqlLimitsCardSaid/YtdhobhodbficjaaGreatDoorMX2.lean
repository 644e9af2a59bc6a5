/- What is proved: contracts of the program's and the reference's functions in the evaluator, and plain laws on them. Conditions: as each states. -/
import Derived.Test.YtdhobhodbficjaaGreatDoorMX1
set_option linter.unusedSimpArgs false
set_option linter.unusedSectionVars false
set_option linter.unusedVariables false
set_option maxRecDepth 100000
namespace Go.Ab
open Go Go.Proofs
section
variable {Bs:World→Prop}
variable {P:Program} {μ:Mp Bs} {h:Heap} {w:World}
theorem checkKey_arr {t e:TypeId} {n:Nat} {k:IntKind} {i:TypeInfo} (hu:P.underlying t=some (.array n e)) (he:P.underlying e=some (.int k)) (hi:P.info? e=some i) (hs:i.size=1) (b:Bool) (cs:Array Value) (hc:n≤cs.size) (d:Nat) :
  (Instr.checkKey b (d+2) t (.agg cs)).run P w=.ok () w:=by
 have hz:(sizeOf e).run P w=.ok 1 w:=by simp [sizeOf,typeInfo,hi,hs]
 have hel:∀ v:Value,(Instr.checkKey b (d+1) e v).run P w=.ok () w:=fun v=>by simp [Instr.checkKey,run_underlying he]
 rw [Instr.checkKey]
 simp only [Sem.run_bind,run_underlying hu,Result.andThen_ok]
 have:=range_ok (P:=P) (w:=w) (f:=fun i _=>do
  Instr.checkKey b (d+1) e (←Go.part e cs (i*(←sizeOf e)))
  pure (ForInStep.yield PUnit.unit)) (List.range' 0 n) (fun j hj=>by
   have hj':j < cs.size:=by
    have:=(List.mem_range'_1.1 hj).2
    omega
   have hp:(Go.part e cs (j*1)).run P w=.ok cs[j] w:=by simp [Go.part,isAgg,run_underlying he,hj']
   simp only [Sem.run_bind,hz,hp,hel,Result.andThen_ok,Sem.run_pure])
 rw [Std.Legacy.Range.forIn_eq_forIn_range']
 simp only [Std.Legacy.Range.size,Nat.sub_zero,Nat.add_sub_cancel,Nat.div_one]
 rw [this]
 simp
theorem checkKey_run {kk:KK} {t:TypeId} (hk:KkIs P kk t) (hn:∀ n,kk≠.arr n) (b:Bool) (v:Value):(Instr.checkKey b 10000 t v).run P w=.ok () w:=checkKey_run' hk hn b v 9999
def descOf (kk:KK) (i:IntKind):TypeDesc :=
 match kk with
 | .int=>.int i
 | .str=>.string
 | .arr _=>.string
theorem sameNow_spec {M:Nat→Nat→Prop} {kk:KK} {i:IntKind} {a b:AV} {va vb:Value} {r:Bool} (e:keyEq kk a b=some r) (ha:PRep M w a va) (hb:PRep M w b vb):Instr.sameNow (descOf kk i) va vb=some r∧(r=true→vb=va∧a=b)∧(r=false→apartK a b=true):=by
 unfold keyEq at e
 split at e
 ·rename_i k x k' y
  have e1:va=.int k x:=ha
  have e2:vb=.int k' y:=hb
  subst e1 e2
  split at e
  ·rename_i hk
   subst hk
   simp only [Option.some.injEq] at e
   subst e
   exact ⟨by simp [Instr.sameNow,descOf],fun hr=>by rw [show x=y by simpa using hr];exact ⟨rfl,rfl⟩,fun hr=>by simp [apartK,hr]⟩
  ·simp at e
 ·rename_i x y
  have e1:va=.string ⟨x.toArray⟩:=ha
  have e2:vb=.string ⟨y.toArray⟩:=hb
  subst e1 e2
  simp only [Option.some.injEq] at e
  subst e
  have h1:((⟨x.toArray⟩:ByteArray)==⟨y.toArray⟩)=(x==y):=by
   show ((x.toArray==y.toArray):Bool)=_
   simp
  exact ⟨by simp only [Instr.sameNow,descOf,h1],fun hr=>by rw [show x=y by simpa using hr];exact ⟨rfl,rfl⟩,fun hr=>by simp [apartK,hr]⟩
 ·simp at e
theorem keyEq_apart {kk:KK} {k k' q:AV} (h1:keyEq kk k k'=some true) (h2:apartK k' q=true∨apartK q k'=true):keyEq kk k q=some false:=by
 unfold keyEq at h1
 split at h1
 ·rename_i j x j' y
  split at h1
  ·rename_i hk
   subst hk
   have hxy:x=y:=by simpa using h1
   subst hxy
   cases q with
   | int k2 b =>
    simp only [apartK,Bool.and_eq_true,decide_eq_true_eq,Bool.not_eq_true',beq_eq_false_iff_ne] at h2
    have hk:j=k2:=by rcases h2 with h | h;exact h.1;exact h.1.symm
    have hne:x≠b:=by rcases h2 with h | h;exact h.2;exact fun e=>h.2 e.symm
    subst hk
    simp [keyEq,hne]
   | _=>simp [apartK] at h2
  ·simp at h1
 ·rename_i x y
  have hxy:x=y:=by simpa using h1
  subst hxy
  cases q with
  | str b =>
   simp only [apartK,Bool.not_eq_true',beq_eq_false_iff_ne] at h2
   have hne:x≠b:=by rcases h2 with h | h;exact h;exact fun e=>h e.symm
   simp [keyEq,hne]
  | _=>simp [apartK] at h2
 ·simp at h1
theorem find_none {kk:KK} {k:AV}:∀ (es:List (AV×AV)) (n:Nat),findA kk k es n=some none→∀ p,p∈es→keyEq kk k p.1=some false
 | [],_,_,p,hp=>by simp at hp
 | (k',v)::es,n,e,p,hp=>by
  simp only [findA] at e
  split at e
  ·simp at e
  ·rename_i hq
   rcases List.mem_cons.1 hp with rfl | hp
   ·exact hq
   ·exact find_none es (n+1) e p hp
  ·simp at e
theorem find_some {kk:KK} {k v:AV} {i:Nat}:∀ (es:List (AV×AV)) (n:Nat),findA kk k es n=some (some (i,v))→n≤i∧∃ k',es[i - n]? = some (k',v)∧keyEq kk k k'=some true
 | [],_,e=>by simp [findA] at e
 | (k',u)::es,n,e=>by
  simp only [findA] at e
  split at e
  ·rename_i hq
   simp only [Option.some.injEq,Prod.mk.injEq] at e
   obtain ⟨rfl,rfl⟩:=e
   exact ⟨Nat.le_refl _,k',by simp,hq⟩
  ·obtain ⟨h1,k2,h2,h3⟩:=find_some es (n+1) e
   refine ⟨by omega,k2,?_,h3⟩
   rw [show i - n=(i - (n+1))+1 by omega,List.getElem?_cons_succ]
   exact h2
  ·simp at e
theorem EntRep.at {M:Nat→Nat→Prop}:∀ (es:List (AV×AV)) (ms:List MapEntry) (i:Nat),EntRep M w es ms→(∀ p,es[i]? = some p→∃ m,ms[i]? = some m∧PRep M w p.1 m.key∧PRep M w p.2 m.val)∧(∀ m,ms[i]? = some m→∃ p,es[i]? = some p∧PRep M w p.1 m.key∧PRep M w p.2 m.val)
 | [],ms,i,h=>by
  have:ms=[]:=h
  subst this
  simp
 | (k,v)::es,ms,i,h=>by
  obtain ⟨m,mr,rfl,h1,h2,h3⟩:=h
  cases i with
  | zero=>simp [h1,h2]
  | succ i=>simpa using EntRep.at es mr i h3
theorem now_none {desc:TypeDesc} {vk:Value}:∀ (ms:List MapEntry) (n:Nat),(∀ m,m∈ms→Instr.sameNow desc vk m.key=some false)→Instr.findNow desc vk ms n=some none
 | [],_,_=>rfl
 | m::ms,n,h=>by
  simp only [Instr.findNow,h m (by simp)]
  exact now_none ms (n+1) fun m' hm=>h m' (List.mem_cons_of_mem _ hm)
theorem now_some {desc:TypeDesc} {vk:Value}:∀ (ms:List MapEntry) (n:Nat),(∀ m,m∈ms→∃ b,Instr.sameNow desc vk m.key=some b)→(∃ m,m∈ms∧Instr.sameNow desc vk m.key=some true)→∃ j m,ms[j]? = some m∧Instr.sameNow desc vk m.key=some true∧Instr.findNow desc vk ms n=some (some (n+j,m.val))
 | [],_,_,h=>by obtain ⟨m,hm,_⟩:=h;simp at hm
 | m::ms,n,h1,h2=>by
  obtain ⟨b,hb⟩:=h1 m (by simp)
  cases b with
  | true=>exact ⟨0,m,rfl,hb,by simp [Instr.findNow,hb]⟩
  | false =>
   obtain ⟨m',hm',ht⟩:=h2
   obtain ⟨j,m2,h3,h4,h5⟩:=now_some ms (n+1) (fun m hm=>h1 m (List.mem_cons_of_mem _ hm)) ⟨m',by
    rcases List.mem_cons.1 hm' with rfl | hm'
    ·rw [hb] at ht;simp at ht
    ·exact hm',ht⟩
   exact ⟨j+1,m2,by simpa using h3,h4,by simp only [Instr.findNow,hb,h5];congr 3;omega⟩
theorem perm_at {α:Type} {m:α}:∀ (l:List α) (i:Nat),l[i]? = some m→l.Perm (m::l.eraseIdx i)
 | [],i,h=>by simp at h
 | a::l,0,h=>by
  simp only [List.getElem?_cons_zero,Option.some.injEq] at h
  subst h
  exact List.Perm.refl _
 | a::l,i+1,h=>by
  simp only [List.getElem?_cons_succ] at h
  simp only [List.eraseIdx_cons_succ]
  exact ((perm_at l i h).cons a).trans (List.Perm.swap _ _ _)
theorem perm_mod {α:Type} {m:α} (f:α→α):∀ (l:List α) (i:Nat),l[i]? = some m→(l.modify i f).Perm (f m::l.eraseIdx i)
 | [],i,h=>by simp at h
 | a::l,0,h=>by
  simp only [List.getElem?_cons_zero,Option.some.injEq] at h
  subst h
  exact List.Perm.refl _
 | a::l,i+1,h=>by
  simp only [List.getElem?_cons_succ] at h
  simp only [List.eraseIdx_cons_succ,List.modify_succ_cons]
  exact ((perm_mod f l i h).cons a).trans (List.Perm.swap _ _ _)
theorem perm_two {α:Type} {m:α} (f:α→α) {l l':List α} {i j:Nat} (hp:l.Perm l') (h1:l[i]? = some m) (h2:l'[j]? = some m):(l.modify i f).Perm (l'.modify j f):=by
 have h3:(l.eraseIdx i).Perm (l'.eraseIdx j):=((perm_at l i h1).symm.trans (hp.trans (perm_at l' j h2))).cons_inv
 exact (perm_mod f l i h1).trans ((h3.cons _).trans (perm_mod f l' j h2).symm)
def FoundSet (M:Nat→Nat→Prop) (w:World) (es:List (AV×AV)) (ms:List MapEntry) (vk:Value):Option (Nat×AV)→Option (Nat×Value)→Prop
 | none,r=>r=none
 | some (i,a),r=>∃ j m,ms[j]? = some m∧r=some (j,m.val)∧PRep M w a m.val∧m.key=vk∧(∃ k',es[i]? = some (k',a)∧PRep M w k' vk) ∧
   ∃ ms',ms'.Perm ms∧ms'[i]? = some m∧EntRep M w es ms'
theorem find_spec {M:Nat→Nat→Prop} {kk:KK} {i:IntKind} {k:AV} {vk:Value} {es:List (AV×AV)} {ms:List MapEntry} {r:Option (Nat×AV)} (hk:PRep M w k vk) (he:EntSet M w es ms) (e:findA kk k es 0=some r) :
  ∃ r',Instr.findNow (descOf kk i) vk ms 0=some r'∧FoundSet M w es ms vk r r':=by
 obtain ⟨hap,ms',hperm,hrep⟩:=he
 cases r with
 | none =>
  have h1:=find_none es 0 e
  refine ⟨none,now_none ms 0 fun m hm=>?_,rfl⟩
  obtain ⟨j,hj⟩:=List.mem_iff_getElem?.1 (hperm.mem_iff.2 hm)
  obtain ⟨p,hp,h2,_⟩:=(EntRep.at es ms' j hrep).2 m hj
  exact (sameNow_spec (i:=i) (h1 p (List.mem_of_getElem? hp)) hk h2).1
 | some q =>
  obtain ⟨n,a⟩:=q
  obtain ⟨_,k',hk',hq⟩:=find_some es 0 e
  simp only [Nat.sub_zero] at hk'
  obtain ⟨m,hm,h2,h3⟩:=(EntRep.at es ms' n hrep).1 _ hk'
  obtain ⟨h4,h5,_⟩:=sameNow_spec (i:=i) hq hk h2
  have other:∀ j m2,ms'[j]? = some m2→j≠n→Instr.sameNow (descOf kk i) vk m2.key=some false:=fun j m2 hj hne=>by
   obtain ⟨p,hp,h6,_⟩:=(EntRep.at es ms' j hrep).2 m2 hj
   refine (sameNow_spec (i:=i) (keyEq_apart hq ?_) hk h6).1
   have e1:(es.map (·.1))[n]? = some k':=by simp [hk']
   have e2:(es.map (·.1))[j]? = some p.1:=by simp [hp]
   rcases Nat.lt_or_gt_of_ne hne with hlt | hlt
   ·right
    obtain ⟨q1,g1⟩:=List.getElem?_eq_some_iff.1 e2
    obtain ⟨q2,g2⟩:=List.getElem?_eq_some_iff.1 e1
    have:=(List.pairwise_iff_getElem.1 hap) j n q1 q2 hlt
    rwa [g1,g2] at this
   ·left
    obtain ⟨q1,g1⟩:=List.getElem?_eq_some_iff.1 e1
    obtain ⟨q2,g2⟩:=List.getElem?_eq_some_iff.1 e2
    have:=(List.pairwise_iff_getElem.1 hap) n j q1 q2 hlt
    rwa [g1,g2] at this
  obtain ⟨j,m2,g1,g2,g3⟩:=now_some (desc:=descOf kk i) (vk:=vk) ms 0 (fun m3 hm3=>by
   obtain ⟨l,hl⟩:=List.mem_iff_getElem?.1 (hperm.mem_iff.2 hm3)
   by_cases hln:l=n
   ·subst hln
    rw [hm] at hl
    simp only [Option.some.injEq] at hl
    subst hl
    exact ⟨_,h4⟩
   ·exact ⟨_,other l m3 hl hln⟩) ⟨m,hperm.mem_iff.1 (List.mem_of_getElem? hm),h4⟩
  have hmm:m2=m:=by
   obtain ⟨l,hl⟩:=List.mem_iff_getElem?.1 (hperm.mem_iff.2 (List.mem_of_getElem? g1))
   by_cases hln:l=n
   ·subst hln
    rw [hm] at hl
    exact (Option.some.inj hl).symm
   ·have:=other l m2 hl hln
    rw [g2] at this
    simp at this
  subst hmm
  rw [Nat.zero_add] at g3
  have hkv:m2.key=vk:=(h5 rfl).1
  exact ⟨some (j,m2.val),g3,j,m2,g1,rfl,h3,hkv,⟨k',hk',by rw [←hkv];exact h2⟩,ms',hperm,hm,hrep⟩
theorem kk_desc {kk:KK} {t:TypeId} (hk:KkIs P kk t) (hn:∀ n,kk≠.arr n):∃ i,P.underlying t=some (descOf kk i):=by
 cases kk with
 | int=>obtain ⟨i,hi⟩:=hk;exact ⟨i,hi⟩
 | str=>exact ⟨.i64,hk⟩
 | arr n=>exact absurd rfl (hn n)
theorem findKey_run {M:Nat→Nat→Prop} {kk:KK} {t:TypeId} {k:AV} {vk:Value} {es:List (AV×AV)} {ms:List MapEntry} {r:Option (Nat×AV)} (ht:KkIs P kk t) (hn:∀ n,kk≠.arr n) (hk:PRep M w k vk) (he:EntSet M w es ms) (e:findA kk k es 0=some r) :
  ∃ r',(Instr.findKey t vk ms).run P w=.ok r' w∧FoundSet M w es ms vk r r':=by
 obtain ⟨i,hu⟩:=kk_desc ht hn
 obtain ⟨r',h1,h2⟩:=find_spec (i:=i) hk he e
 exact ⟨r',by simp [Instr.findKey,run_underlying hu,h1],h2⟩
theorem findKey_nil {t:TypeId} {d:TypeDesc} {vk:Value} (hu:P.underlying t=some d):(Instr.findKey t vk []).run P w=.ok none w:=by simp [Instr.findKey,run_underlying hu,Instr.findNow]
theorem ints_len:∀ {n:Nat} {l:List AV},intsB n l=true→l.length=n
 | 0,[],_=>rfl
 | 0,_::_,h=>by simp [intsB] at h
 | n+1,[],h=>by simp [intsB] at h
 | n+1,a::l,h=>by
  cases a with
  | int k x =>
   cases k with
   | i64=>simp only [intsB] at h;simp [ints_len h]
   | _=>simp [intsB] at h
  | _=>simp [intsB] at h
theorem checkKey_all {kk:KK} {t:TypeId} {k:AV} {vk:Value} (ht:KkIs P kk t) (hf:keyFit kk k=true) (hk:Rep μ h w k vk) (b:Bool):(Instr.checkKey b 10000 t vk).run P w=.ok () w:=by
 cases kk with
 | int=>exact checkKey_run ht (by simp) b vk
 | str=>exact checkKey_run ht (by simp) b vk
 | arr n =>
  obtain ⟨e,j,hu,he,i,hi,hs⟩:=ht
  cases k with
  | agg a =>
   obtain ⟨vs,rfl,hv⟩:=hk
   have h1:=ints_len (show intsB n a=true from hf)
   have h2:=hv.len
   exact checkKey_arr hu he hi hs b vs.toArray (by simp;omega) 9998
  | _=>simp [keyFit] at hf
theorem findKey_all {kk:KK} {t:TypeId} {k:AV} {vk:Value} {es:List (AV×AV)} {ms:List MapEntry} {r:Option (Nat×AV)} (ht:KkIs P kk t) (hk:Rep μ h w k vk) (he:EntSet (Mut μ h) w es ms) (e:findA kk k es 0=some r) :
  ∃ r',(Instr.findKey t vk ms).run P w=.ok r' w∧FoundSet (Mut μ h) w es ms vk r r':=by
 cases es with
 | nil =>
  obtain ⟨_,ms',hp,hr⟩:=he
  have:ms'=[]:=hr
  subst this
  have:ms=[]:=hp.symm.eq_nil
  subst this
  simp only [findA,Option.some.injEq] at e
  subst e
  have hd:∃ d,P.underlying t=some d:=by
   cases kk with
   | int=>obtain ⟨i,hi⟩:=ht;exact ⟨_,hi⟩
   | str=>exact ⟨_,ht⟩
   | arr n=>obtain ⟨e,j,hu,_⟩:=ht;exact ⟨_,hu⟩
  obtain ⟨d,hd⟩:=hd
  exact ⟨none,findKey_nil hd,rfl⟩
 | cons p es =>
  have hkp:PRep (Mut μ h) w k vk∧∀ n,kk≠.arr n:=by
   simp only [findA] at e
   cases hq:keyEq kk k p.1 with
   | none=>simp [hq] at e
   | some b =>
    unfold keyEq at hq
    split at hq
    ·exact ⟨hk,by simp⟩
    ·exact ⟨hk,by simp⟩
    ·simp at hq
  exact findKey_run ht hkp.2 hkp.1 he e
theorem lookup_sound {t:TypeId} {x k y:AV} {ok:Bool} {vx vk:Value} (hr:Rel μ h w) (e:lookupV P t h x k ok=some y) (hx:Rep μ h w x vx) (hk:Rep μ h w k vk) :
  ∃ u,(Instr.lookup t vx vk ok).run P w=.ok u w∧Rep μ h w y u:=by
 unfold lookupV at e
 split at e
 ·rename_i kk el es hkk hes
  obtain ⟨kt,hu,hkt⟩:=kk_spec hkk
  cases hfit:keyFit kk k with
  | false=>simp [hfit] at e
  | true =>
  simp only [hfit,cond_true] at e
  have hck:=fun b=>checkKey_all hkt hfit hk b
  have fin:∀ {ms:List MapEntry} {r:Option (Nat×AV)} {r':Option (Nat×Value)},lookRes ok (zv P el) (some r)=some y→FoundSet (Mut μ h) w es ms vk r r' →
    ∃ u,((do
     let (v,ok') ←match r' with
      | some (_,v)=>pure (v,true)
      | none=>pure (←zeroValue el,false)
     pure (if ok then Value.tuple #[v,.bool ok'] else v):Sem Value)).run P w=.ok u w∧Rep μ h w y u:=by
   intro ms r r' e1 hf
   cases r with
   | none =>
    have:r'=none:=hf
    subst this
    simp only [lookRes] at e1
    split at e1
    ·rename_i z hz
     simp only [Option.some.injEq] at e1
     subst e1
     obtain ⟨i,z',_,_,h3,h4⟩:=zv_spec (w:=w) hz
     have hrep:Rep μ h w z z':=by rw [h3];exact Rep.pure _ _ (ofVal_rep z')
     cases ok with
     | true=>exact ⟨.tuple #[z',.bool false],by simp [h4],[z',.bool false],rfl,z',_,rfl,hrep,_,_,rfl,rfl,rfl⟩
     | false=>exact ⟨z',by simp [h4],hrep⟩
    ·simp at e1
   | some p =>
    obtain ⟨i,a⟩:=p
    obtain ⟨j,m,_,rfl,h2,_⟩:=hf
    simp only [lookRes,Option.some.injEq] at e1
    subst e1
    have hrep:Rep μ h w a m.val:=Rep.pure _ _ h2
    cases ok with
    | true=>exact ⟨.tuple #[m.val,.bool true],by simp,[m.val,.bool true],rfl,m.val,_,rfl,hrep,_,_,rfl,rfl,rfl⟩
    | false=>exact ⟨m.val,by simp,hrep⟩
  cases hf:findA kk k es 0 with
  | none=>rw [hf] at e;simp [lookRes] at e
  | some r =>
   rw [hf] at e
   cases x with
   | nilm =>
    have hv:vx=.map none:=hx
    subst hv
    simp only [entriesOf,Option.some.injEq] at hes
    subst hes
    obtain ⟨r',h6,h7⟩:=findKey_all (ms:=[]) hkt hk EntSet.empty hf
    obtain ⟨u,h1,h2⟩:=fin (ms:=[]) e h7
    refine ⟨u,?_,h2⟩
    simp only [Instr.lookup,Sem.run_bind,run_underlying hu,Result.andThen_ok,Sem.run_pure,hck,h6] at h1 ⊢
    exact h1
   | mp l =>
    simp only [entriesOf] at hes
    split at hes
    ·rename_i es' hl
     simp only [Option.some.injEq] at hes
     subst hes
     obtain ⟨es2,b,h1,h2,rfl⟩:=hx
     obtain ⟨b',ms,c,h3,h4,h5⟩:=hr.blk l _ hl
     have:b'=b:=by rw [h2] at h3;simpa using h3.symm
     subst this
     obtain ⟨r',h6,h7⟩:=findKey_all hkt hk h5 hf
     obtain ⟨u,h8,h9⟩:=fin e h7
     have hg:(getObj b').run P w=.ok (.map ms.toArray c) w:=by simp [getObj,Sem.run,h4]
     refine ⟨u,?_,h9⟩
     simp only [Instr.lookup,Sem.run_bind,run_underlying hu,Result.andThen_ok,Sem.run_pure,hck,hg,h6] at h8 ⊢
     exact h8
    ·simp at hes
   | _=>simp [entriesOf] at hes
 ·simp at e
theorem EntRep.modify {M:Nat→Nat→Prop} {k v:AV} {vk vv:Value} (hk:PRep M w k vk) (hv:PRep M w v vv):∀ (es:List (AV×AV)) (ms:List MapEntry) (i:Nat),EntRep M w es ms→EntRep M w (es.modify i fun _=>(k,v)) (ms.modify i fun e=>{ e with key:=vk,val:=vv })
 | [],ms,i,h=>by
  have:ms=[]:=h
  subst this
  cases i<;>exact rfl
 | (k',v')::es,ms,i,h=>by
  obtain ⟨m,mr,rfl,h1,h2,h3⟩:=h
  cases i with
  | zero=>exact ⟨_,mr,rfl,hk,hv,h3⟩
  | succ i=>exact ⟨m,_,rfl,h1,h2,EntRep.modify hk hv es mr i h3⟩
theorem EntRep.ins {M:Nat→Nat→Prop} {k v:AV} {m:MapEntry} (hk:PRep M w k m.key) (hv:PRep M w v m.val):∀ (es:List (AV×AV)) (ms:List MapEntry),EntRep M w es ms→∃ ms':List MapEntry,ms'.Perm (m::ms)∧EntRep M w (insA k v es) ms'
 | [],ms,h=>by
  have:ms=[]:=h
  subst this
  exact ⟨[m],List.Perm.refl _,m,[],rfl,hk,hv,rfl⟩
 | (k',v')::es,ms,h=>by
  obtain ⟨m',mr,rfl,h1,h2,h3⟩:=h
  simp only [insA]
  split
  ·exact ⟨m::m'::mr,List.Perm.refl _,m,_,rfl,hk,hv,m',mr,rfl,h1,h2,h3⟩
  ·obtain ⟨ms',h4,h5⟩:=EntRep.ins hk hv es mr h3
   exact ⟨m'::ms',(h4.cons m').trans (List.Perm.swap _ _ _),m',ms',rfl,h1,h2,h5⟩
theorem insA_perm (k v:AV):∀ es:List (AV×AV),(insA k v es).Perm ((k,v)::es)
 | []=>List.Perm.refl _
 | p::es=>by
  simp only [insA]
  split
  ·exact List.Perm.refl _
  ·exact ((insA_perm k v es).cons p).trans (List.Perm.swap _ _ _)
theorem apartK_symm {a b:AV} (h:apartK a b=true):apartK b a=true:=by
 cases a<;>cases b<;>simp [apartK] at h ⊢
 ·exact ⟨h.1.symm,fun e=>h.2 e.symm⟩
 ·exact fun e=>h e.symm
theorem EntSet.ins {M:Nat→Nat→Prop} {kk:KK} {k v:AV} {m:MapEntry} {es:List (AV×AV)} {ms:List MapEntry} (he:EntSet M w es ms) (hf:findA kk k es 0=some none) (hk:PRep M w k m.key) (hv:PRep M w v m.val) (i:IntKind):EntSet M w (insA k v es) (ms++[m]):=by
 obtain ⟨hap,ms',hp,hr⟩:=he
 obtain ⟨ms2,h1,h2⟩:=EntRep.ins hk hv es ms' hr
 refine ⟨?_,ms2,h1.trans ((hp.cons m).trans (List.perm_append_singleton m ms).symm),h2⟩
 have hperm:((insA k v es).map (·.1)).Perm (k::es.map (·.1)):=(insA_perm k v es).map (·.1)
 unfold Apart
 rw [hperm.pairwise_iff fun h=>apartK_symm h]
 refine List.pairwise_cons.2 ⟨fun q hq=>?_,hap⟩
 obtain ⟨p,hpm,rfl⟩:=List.mem_map.1 hq
 obtain ⟨j,hj⟩:=List.mem_iff_getElem?.1 hpm
 obtain ⟨m2,_,h4,_⟩:=(EntRep.at es ms' j hr).1 p hj
 exact (sameNow_spec (i:=i) (find_none es 0 hf p hpm) hk h4).2.2 rfl
theorem EntSet.put {M:Nat→Nat→Prop} {kk:KK} {k v a:AV} {vk vv:Value} {i j:Nat} {m:MapEntry} {es:List (AV×AV)} {ms:List MapEntry} (he:EntSet M w es ms) (hf:findA kk k es 0=some (some (i,a))) (hk:PRep M w k vk) (hv:PRep M w v vv) {ms':List MapEntry} (hp:ms'.Perm ms) (hm':ms'[i]? = some m) (hm:ms[j]? = some m) (hr:EntRep M w es ms') :
  EntSet M w (es.modify i fun _=>(k,v)) (ms.modify j fun e=>{ e with key:=vk,val:=vv }):=by
 obtain ⟨hap,_⟩:=he
 refine ⟨?_,_,perm_two (fun e=>{ e with key:=vk,val:=vv }) hp hm' hm,EntRep.modify hk hv es ms' i hr⟩
 obtain ⟨_,k',hk',hq⟩:=find_some es 0 hf
 simp only [Nat.sub_zero] at hk'
 have hkk:k=k':=by
  unfold keyEq at hq
  split at hq
  ·rename_i j1 x1 j2 y1
   split at hq
   ·rename_i h1
    have:x1=y1:=by simpa using hq
    rw [h1,this]
   ·simp at hq
  ·rename_i x1 y1
   have:x1=y1:=by simpa using hq
   rw [this]
  ·simp at hq
 subst hkk
 have:(es.modify i fun _=>(k,v)).map (·.1)=es.map (·.1):=by
  apply List.ext_getElem?
  intro l
  simp only [List.getElem?_map,List.getElem?_modify]
  by_cases hl:i=l
  ·subst hl;simp [hk']
  ·simp [hl]
 unfold Apart
 rw [this]
 exact hap
theorem keyStays_run {kk:KK} {k:AV} {vk:Value} {M:Nat→Nat→Prop} (hk:keyOk kk k=true) (hn:∀ n,kk≠.arr n) (hr:PRep M w k vk):(Instr.keyThatStays vk vk).run P w=.ok vk w:=by
 unfold keyOk at hk
 split at hk
 ·rename_i j a
  have:vk=.int j a:=hr
  subst this
  simp [Instr.keyThatStays,Instr.sameBits]
 ·rename_i s
  have:vk=.string ⟨s.toArray⟩:=hr
  subst this
  have h1:((⟨s.toArray⟩:ByteArray)==⟨s.toArray⟩)=true:=by
   show ((s.toArray==s.toArray):Bool)=true
   simp
  simp [Instr.keyThatStays,Instr.sameBits,h1]
 ·exact absurd rfl (hn _)
 ·simp at hk
theorem Ext.putMap {l b:Nat} {es es':List (AV×AV)} {ms ms':Array MapEntry} {c c':Nat} (hl:h[l]? = some (.map es)) (hm:μ l=some b) (hb:w.heap[b]? = some (.map ms c)) :
  Ext μ h w μ (h.set l (.map es')) { w with heap:=w.heap.setIfInBounds b (.map ms' c') } where
 out:=rfl
 still:=rfl
 os:=rfl
 tape:=rfl
 output:=rfl
 size:=by simp
 len:=by simp
 keep:=fun b' o v hc hmu=>by
  have hll:l < h.length:=(List.getElem?_eq_some_iff.1 hl).1
  refine ⟨?_,?_⟩
  ·by_cases hbb:b=b'
   ·subst hbb
    simp [World.cell?,hb] at hc
   ·simp only [World.cell?] at hc ⊢
    rw [Array.getElem?_setIfInBounds_ne hbb];exact hc
  ·rintro (ho | ⟨l',k2,hl2,hm2,ho⟩)
   ·exact hmu (.inl ho)
   ·by_cases hll':l=l'
    ·subst hll'
     exact hmu (.inr ⟨l,_,hl,hm2,trivial⟩)
    ·rw [List.getElem?_set_ne hll'] at hl2
     exact hmu (.inr ⟨l',k2,hl2,hm2,ho⟩)
 outside:=fun b' hlt ho=>⟨by
   have hbb:b≠b':=fun e=>by
    subst e
    exact ho l (List.getElem?_eq_some_iff.1 hl).1 hm
   exact Array.getElem?_setIfInBounds_ne hbb,fun l' hl'=>ho l' (by simpa using hl')⟩
 cells:=fun l' cs hl'=>by
  refine ⟨⟨cs,?_⟩,rfl⟩
  have hll':l≠l':=fun e=>by subst e;rw [hl] at hl';simp at hl'
  rw [List.getElem?_set_ne hll'];exact hl'
 rows:=fun l' z rs wr hl'=>by
  have hll':l≠l':=fun e=>by subst e;rw [hl] at hl';simp at hl'
  exact ⟨rs,wr,by rw [List.getElem?_set_ne hll'];exact hl',Nat.le_refl _,fun _=>rfl⟩
 maps:=fun l' es2 hl'=>by
  refine ⟨?_,rfl⟩
  have hll:l < h.length:=(List.getElem?_eq_some_iff.1 hl).1
  by_cases hll':l=l'
  ·subst hll'
   exact ⟨es',by rw [List.getElem?_set_self hll]⟩
  ·exact ⟨es2,by rw [List.getElem?_set_ne hll'];exact hl'⟩
 sizes:=fun b' vs2 T2 hb2=>by
  obtain ⟨fz,hb2⟩:=hb2
  have hbb:b≠b':=fun e=>by subst e;rw [hb] at hb2;simp at hb2
  exact ⟨vs2,⟨fz,by rw [←hb2];exact Array.getElem?_setIfInBounds_ne hbb⟩,rfl⟩
end
section
variable {Bs:World→Prop}
def Called (Bs:World→Prop) (P:Program) (g:FuncId) (args:List AV) (h:Heap) (r:AV) (h':Heap):Prop :=
 ∀ (μ:Mp Bs) (w:World) (vs:List Value),Rel μ h w→RepL μ h w args vs →
  Calls P g vs.toArray w fun e w'=>∃ v μ',e=.returned v∧Rel μ' h' w'∧Ext μ h w μ' h' w'∧Rep μ' h' w' r v
def Knows (Bs:World→Prop) (P:Program) (F:Tk→Res):Prop :=
 ∀ g args h r h',F (.call g args h)=some (r,h')→Go.Proofs.Enters P g∧Called Bs P g args h r h'
end
section
variable {Bs:World→Prop}
variable {P:Program} {μ:Mp Bs} {h h':Heap} {w:World} {a:Act} {o:Oper} {x:AV}
def Goes (P:Program) (o:Oper) (a:Act) (μ:Mp Bs) (h:Heap) (w:World) (x:AV) (h':Heap):Prop :=
 ∀ (next:Act→World→Prop) (Q:Exit→Act→World→Prop),(∀ v μ' w',Rel μ' h' w'→Ext μ h w μ' h' w'→Rep μ' h' w' x v→next (a.put o.dst v) w')→o.wp P a w next Q
theorem goes_quiet {s:Sem Value} (hs:execOp a.eval o=(do pure (.value (←s)))) (hq:Quiet P μ h w s x):Goes P o a μ h w x h:=by
 intro next Q hn
 obtain ⟨u,w',h1,h2,h3,h4⟩:=hq
 have:(execOp a.eval o).run P w=.ok (.value u) w':=by
  rw [hs];simp [h1]
 unfold Oper.wp
 rw [this]
 exact hn u μ w' h2 h3 h4
theorem goes_value {v:Value} (hs:execOp a.eval o=pure (.value v)) (hr:Rel μ h w) (hv:Rep μ h w x v):Goes P o a μ h w x h:=by
 intro next Q hn
 have:(execOp a.eval o).run P w=.ok (.value v) w:=by rw [hs];rfl
 unfold Oper.wp
 rw [this]
 exact hn v μ w hr (Ext.refl _ _ _) hv
theorem goes_same {s:Sem Value} (hs:execOp a.eval o=(do pure (.value (←s)))) (hr:Rel μ h w) (hq:∃ u,s.run P w=.ok u w∧Rep μ h w x u):Goes P o a μ h w x h :=
 goes_quiet hs (Quiet.of_same hr hq)
theorem evo_rep {ev:Operand→AV} {ρ:Operand→Value} (he:EvRep μ h w ev ρ) (y:Option Operand):OptRep μ h w (evo ev y) (y.map ρ):=by
 cases y with
 | none=>trivial
 | some y=>exact he y
def inner (μ:Mp Bs) (h:Heap):Mp Bs:=⟨fun _=>none,Mut μ h,μ.still⟩
theorem Rel.empty (hr:Rel μ h w):Rel (inner μ h) [] w where
 inj:=fun _ _ _ hl=>by simp at hl
 blk:=fun _ _ hl=>by simp at hl
 apart:=fun _ _ _ hl=>by simp at hl
 still:=fun b hb=>⟨(hr.still b hb).1,fun l hl=>by simp at hl⟩
 base:=hr.base
 old:=fun b o ho=>by
  rcases ho with ho | ⟨l,k,hl,hm,_⟩
  ·exact hr.old b o ho
  ·exact hr.mapped (List.getElem?_eq_some_iff.1 hl).1 hm
theorem mut_inner {b o:Nat}:Mut (inner μ h) [] b o↔Mut μ h b o:=by
 constructor
 ·rintro (ho | ⟨l,k,hl,_⟩)
  ·exact ho
  ·simp at hl
 ·exact .inl
theorem purifiedA (hr:Rel μ h w) {nl:Bool} {l l':List AV} {vs:List Value} (e:purA nl h l=some l') (hl:RepL μ h w l vs):RepL (inner μ h) [] w l' vs :=
 RepL.pure _ _ (PRepL.keep (fun b o v hc hm=>⟨hc,fun hx=>hm (mut_inner.1 hx)⟩) _ _ (purA_sound hr e hl))
mutual
/-- With no memory of our own a value hangs on none. -/
theorem Rep.no_own {μ:Mp Bs}:∀ (a:AV) (v:Value),Rep μ [] w a v→PRep (Mut μ []) w a v
 | .agg cs,_,r=>by
  obtain ⟨vs,hv,r⟩:=r
  exact ⟨vs,hv,RepL.no_own cs vs r⟩
 | .tup cs,_,r=>by
  obtain ⟨vs,hv,r⟩:=r
  exact ⟨vs,hv,RepL.no_own cs vs r⟩
 | .fn _ cs,_,r=>by
  obtain ⟨vs,hv,r⟩:=r
  exact ⟨vs,hv,RepL.no_own cs vs r⟩
 | .bnd _ cs,_,r=>by
  obtain ⟨vs,hv,r⟩:=r
  exact ⟨vs,hv,RepL.no_own cs vs r⟩
 | .iface _ a,_,r=>by
  obtain ⟨x,hv,r⟩:=r
  exact ⟨x,hv,Rep.no_own a x r⟩
 | .ptr _ _,_,r=>by obtain ⟨_,_,h1,_⟩:=r;simp at h1
 | .own _ _,_,r=>by obtain ⟨_,_,_,_,_,h1,_⟩:=r;simp at h1
 | .optr _ _ _ _,_,r=>by obtain ⟨_,_,_,_,h1,_⟩:=r;simp at h1
 | .int _ _,_,r=>r
 | .bool _,_,r=>r
 | .str _,_,r=>r
 | .nilp,_,r=>r
 | .nilf,_,r=>r
 | .nili,_,r=>r
 | .emp _,_,r=>r
 | .nilm,_,r=>r
 | .nils,_,r=>r
 | .rows _,_,r=>r
 | .lit _,_,r=>r
 | .rptr _ _,_,r=>r
 | .any,_,r=>r
theorem RepL.no_own {μ:Mp Bs}:∀ (l:List AV) (vs:List Value),RepL μ [] w l vs→PRepL (Mut μ []) w l vs
 | [],_,r=>r
 | a::r,_,x=>by
  obtain ⟨v,vr,hv,h1,h2⟩:=x
  exact ⟨v,vr,hv,Rep.no_own a v h1,RepL.no_own r vr h2⟩
end
theorem Ext.from_empty {μ':Mp Bs} {h1:Heap} {w':World} (e:Ext (inner μ h) [] w μ' h1 w'):Ext μ h w μ h w'∧∀ b,b < w.heap.size→w'.heap[b]? = w.heap[b]? := by
 have hb:∀ b,b < w.heap.size→w'.heap[b]? = w.heap[b]? := fun b hb=>(e.outside b hb fun l hl=>by simp at hl).1
 refine ⟨{
  out:=rfl
  still:=rfl
  os:=e.os
  tape:=e.tape
  output:=e.output
  size:=e.size
  keep:=fun b o v hc hm=>by
   have hlt:b < w.heap.size:=by
    by_cases hlt:b < w.heap.size
    ·exact hlt
    ·simp [World.cell?,Array.getElem?_eq_none (Nat.le_of_not_lt hlt)] at hc
   exact ⟨by simp only [World.cell?] at hc ⊢;rw [hb b hlt];exact hc,hm⟩
  outside:=fun b hlt ho=>⟨hb b hlt,ho⟩
  cells:=fun _ cs hl=>⟨⟨cs,hl⟩,rfl⟩
  len:=Nat.le_refl _
  maps:=fun _ es hl=>⟨⟨es,hl⟩,rfl⟩
  rows:=fun _ _ rs wr hl=>⟨rs,wr,hl,Nat.le_refl _,fun _=>rfl⟩
  sizes:=fun b vs T hc=>⟨vs,hc.eq (hb b hc.lt),rfl⟩ },hb⟩
theorem Rel.from_empty {μ':Mp Bs} {h1:Heap} {w':World} (hr:Rel μ h w) (e:Ext (inner μ h) [] w μ' h1 w'):Rel μ h w' :=
 hr.ext_same e.from_empty.1 fun _ b hl hm=>e.from_empty.2 b (hr.mapped hl hm)
theorem Rep.from_empty {μ':Mp Bs} {w':World} {a:AV} {v:Value} (e:Ext (inner μ h) [] w μ' [] w') (r:Rep μ' [] w' a v):Rep μ h w' a v:=by
 refine Rep.pure a v (PRep.keep ?_ a v (Rep.no_own a v r))
 intro b o v hc hm
 refine ⟨hc,fun hx=>hm (.inl ?_)⟩
 rw [e.out]
 exact hx
theorem call_run {c:Call} {f:Operand} {g:FuncId} {caps:Array Value} (ho:o.op=.call c) (hc:c.callee=.value f) (hf:a.eval f=.func (.func g) #[] caps) (he:Go.Proofs.Enters P g) :
  (execOp a.eval o).run P w=.ok (.enter g (c.args.map a.eval++caps)) w:=by
 simp only [execOp,ho,Sem.run_bind,resolve,hc,hf,Deferred.ofValue,Sem.run_pure,Result.andThen_ok,invoke,Array.empty_append]
 exact he _ _
theorem goes_call {c:Call} {f:Operand} {g:FuncId} {caps:List Value} {args:List AV} {h1:Heap} {r:AV} {μ1:Mp Bs} {h0:Heap} (ho:o.op=.call c) (hc:c.callee=.value f) (hf:a.eval f=.func (.func g) #[] caps.toArray)
  (he:Go.Proofs.Enters P g) (hcl:Called Bs P g args h0 r h1) (hr:Rel μ1 h0 w) (ha:RepL μ1 h0 w args (c.args.toList.map a.eval++caps))
  (hx:∀ v μ2 w',Rel μ2 h1 w'→Ext μ1 h0 w μ2 h1 w'→Rep μ2 h1 w' r v→∃ μ',Rel μ' h' w'∧Ext μ h w μ' h' w'∧Rep μ' h' w' x v):Goes P o a μ h w x h':=by
 intro next Q hn
 unfold Oper.wp
 rw [call_run ho hc hf he,Oper.upon_enter]
 have e1:(c.args.map a.eval++caps.toArray)=(c.args.toList.map a.eval++caps).toArray:=by
  apply Array.ext';simp
 rw [e1]
 refine (hcl μ1 w _ hr ha).mono ?_
 rintro e w' ⟨v,μ2,rfl,h2,h3,h4⟩
 obtain ⟨μ',h5,h6,h7⟩:=hx v μ2 w' h2 h3 h4
 exact hn v μ' w' h5 h6 h7
theorem goes_enter {g:FuncId} {vs:List Value} {args:List AV} {h1:Heap} {r:AV} {μ1:Mp Bs} {h0:Heap} (hent:(execOp a.eval o).run P w=.ok (.enter g vs.toArray) w)
  (hcl:Called Bs P g args h0 r h1) (hr:Rel μ1 h0 w) (ha:RepL μ1 h0 w args vs)
  (hx:∀ v μ2 w',Rel μ2 h1 w'→Ext μ1 h0 w μ2 h1 w'→Rep μ2 h1 w' r v→∃ μ',Rel μ' h' w'∧Ext μ h w μ' h' w'∧Rep μ' h' w' x v):Goes P o a μ h w x h':=by
 intro next Q hn
 unfold Oper.wp
 rw [hent,Oper.upon_enter]
 refine (hcl μ1 w _ hr ha).mono ?_
 rintro e w' ⟨v,μ2,rfl,h2,h3,h4⟩
 obtain ⟨μ',h5,h6,h7⟩:=hx v μ2 w' h2 h3 h4
 exact hn v μ' w' h5 h6 h7
theorem call_enter {c:Call} {f:Operand} {g:FuncId} {caps:List Value} (ho:o.op=.call c) (hc:c.callee=.value f) (hf:a.eval f=.func (.func g) #[] caps.toArray) (he:Go.Proofs.Enters P g) :
  (execOp a.eval o).run P w=.ok (.enter g (c.args.toList.map a.eval++caps).toArray) w:=by
 rw [call_run ho hc hf he]
 have e1:(c.args.map a.eval++caps.toArray)=(c.args.toList.map a.eval++caps).toArray:=by
  apply Array.ext';simp
 rw [e1]
theorem call_enterB {c:Call} {f:Operand} {g:FuncId} {fs:List Value} (ho:o.op=.call c) (hc:c.callee=.value f) (hf:a.eval f=.func (.func g) fs.toArray #[]) (he:Go.Proofs.Enters P g) :
  (execOp a.eval o).run P w=.ok (.enter g (fs++c.args.toList.map a.eval).toArray) w:=by
 have e1:(fs.toArray++c.args.map a.eval++#[])=(fs++c.args.toList.map a.eval).toArray:=by
  apply Array.ext';simp
 rw [←e1]
 simp only [execOp,ho,Sem.run_bind,resolve,hc,hf,Deferred.ofValue,Sem.run_pure,Result.andThen_ok,invoke]
 exact he _ _
theorem bnd_form {f:Operand} {g:FuncId} {fs:List AV} {ev:Operand→AV} (he:EvRep μ h w ev a.eval) (hf:ev f=.bnd g fs):∃ vs:List Value,a.eval f=.func (.func g) vs.toArray #[]∧RepL μ h w fs vs:=by
 have:=he f
 rw [hf] at this
 exact this
theorem fn_form {f:Operand} {g:FuncId} {caps:List AV} {ev:Operand→AV} (he:EvRep μ h w ev a.eval) (hf:ev f=.fn g caps):∃ vs:List Value,a.eval f=.func (.func g) #[] vs.toArray∧RepL μ h w caps vs:=by
 have:=he f
 rw [hf] at this
 exact this
theorem callD_sound {nl:FuncId→Bool×Nat} {F:Tk→Res} (hF:Knows Bs P F) {c:Call} {f:Operand} {ev:Operand→AV} (hr:Rel μ h w) (he:EvRep μ h w ev a.eval) (ho:o.op=.call c) (hc:c.callee=.value f)
  (e:callD nl F h (evs ev c.args.toList) (ev f)=some x):Goes P o a μ h w x h:=by
 unfold callD at e
 split at e
 ·rename_i g caps hg
  obtain ⟨vs,hf,hcaps⟩:=fn_form he hg
  split at e
  ·rename_i pure hp
   unfold afterD at e
   split at e
   ·rename_i r hFr
    simp only [Option.some.injEq] at e
    subst e
    obtain ⟨hen,hcl⟩:=hF _ _ _ _ _ hFr
    exact goes_call ho hc hf hen hcl hr.empty (purifiedA hr hp ((evs_rep he c.args.toList).append hcaps)) fun v μ2 w' h2 h3 h4 =>
     ⟨μ,hr.from_empty h3,h3.from_empty.1,Rep.from_empty h3 h4⟩
   ·simp at e
  ·simp at e
 ·simp at e
theorem builtin_run {c:Call} {b:Builtin} (ho:o.op=.call c) (hc:c.callee=.builtin b) :
  execOp a.eval o=(do
   let d ←(pure { target:=.builtin b c.argTypes o.type (c.args.map fun | .const _=>true | _=>false),args:=c.args.map a.eval }:Sem Deferred)
   invoke d.target d.args):=by
 simp only [execOp,ho,resolve,hc]
 rfl
theorem builtinD_sound {c:Call} {b:Builtin} {ev:Operand→AV} (hr:Rel μ h w) (he:EvRep μ h w ev a.eval) (ho:o.op=.call c) (hc:c.callee=.builtin b)
  (e:builtinD P c.argTypes[0]? b (evs ev c.args.toList)=some x):Goes P o a μ h w x h:=by
 have hargs:=evs_rep he c.args.toList
 have hmap:c.args.map a.eval=(c.args.toList.map a.eval).toArray:=by apply Array.ext';simp
 unfold builtinD at e
 split at e
 ·rename_i y hy
  rw [hy] at hargs
  obtain ⟨v,vr,hv,h1,h2⟩:=hargs
  have:vr=[]:=h2
  subst this
  cases ht:c.argTypes[0]? with
  | none=>simp [ht,tk?,lenV] at e
  | some t =>
   simp only [ht,tk?] at e
   obtain ⟨u,h3,h4⟩:=lenV_sound (P:=P) (t:=t) e h1 o.type
   intro next Q hn
   have hlen:(Builtin.len_ c.argTypes o.type (c.args.map a.eval)).run P w=.ok u w:=by
    rw [hmap,hv]
    have:Builtin.len_ c.argTypes o.type #[v]=Builtin.len_ #[t] o.type #[v]:=by simp [Builtin.len_,ht]
    rw [this];exact h3
   have hrun:(execOp a.eval o).run P w=.ok (.value u) w:=by
    rw [builtin_run ho hc]
    simp only [pure_bind,invoke,builtin,Sem.run_bind,hlen,Result.andThen_ok,Sem.run_pure]
   unfold Oper.wp
   rw [hrun]
   exact hn u μ w hr (Ext.refl _ _ _) h4
 ·rename_i y hy
  rw [hy] at hargs
  obtain ⟨v,vr,hv,h1,h2⟩:=hargs
  have:vr=[]:=h2
  subst this
  cases ht:c.argTypes[0]? with
  | none=>simp [ht,tk?,capV] at e
  | some t =>
   simp only [ht,tk?] at e
   obtain ⟨u,h3,h4⟩:=capV_sound (P:=P) (t:=t) e h1 o.type
   intro next Q hn
   have hlen:(Builtin.cap_ c.argTypes o.type (c.args.map a.eval)).run P w=.ok u w:=by
    rw [hmap,hv]
    have:Builtin.cap_ c.argTypes o.type #[v]=Builtin.cap_ #[t] o.type #[v]:=by simp [Builtin.cap_,ht]
    rw [this];exact h3
   have hrun:(execOp a.eval o).run P w=.ok (.value u) w:=by
    rw [builtin_run ho hc]
    simp only [pure_bind,invoke,builtin,Sem.run_bind,hlen,Result.andThen_ok,Sem.run_pure]
   unfold Oper.wp
   rw [hrun]
   exact hn u μ w hr (Ext.refl _ _ _) h4
 ·obtain ⟨u,h3,h4⟩:=minV_sound (P:=P) e hargs c.argTypes o.type
  intro next Q hn
  have hrun:(execOp a.eval o).run P w=.ok (.value u) w:=by
   rw [builtin_run ho hc]
   simp only [pure_bind,invoke,builtin,Sem.run_bind,hmap,h3,Result.andThen_ok,Sem.run_pure]
  unfold Oper.wp
  rw [hrun]
  exact hn u μ w hr (Ext.refl _ _ _) h4
 ·obtain ⟨u,h3,h4⟩:=maxV_sound (P:=P) e hargs c.argTypes o.type
  intro next Q hn
  have hrun:(execOp a.eval o).run P w=.ok (.value u) w:=by
   rw [builtin_run ho hc]
   simp only [pure_bind,invoke,builtin,Sem.run_bind,hmap,h3,Result.andThen_ok,Sem.run_pure]
  unfold Oper.wp
  rw [hrun]
  exact hn u μ w hr (Ext.refl _ _ _) h4
 ·simp at e
theorem stepD_sound {C:Cfg} {F:Tk→Res} (hF:Knows Bs C.P F) {ev:Operand→AV} (hr:Rel μ h w) (he:EvRep μ h w ev a.eval) (e:stepD C F ev h o.op=some x):Goes C.P o a μ h w x h:=by
 cases ho:o.op with
 | move y =>
  simp only [stepD,ho,Option.some.injEq] at e
  subst e
  exact goes_value (by simp [execOp,ho]) hr (he y)
 | assign y =>
  simp only [stepD,ho,Option.some.injEq] at e
  subst e
  exact goes_value (by simp [execOp,ho]) hr (he y)
 | pick c p q =>
  simp only [stepD,ho] at e
  obtain ⟨t,h1,h2⟩:=pick_sound e (he c) (he p) (he q)
  refine goes_value (v:=if t then a.eval p else a.eval q) ?_ hr h2
  simp [execOp,ho,h1,asBool]
 | build t parts =>
  simp only [stepD,ho] at e
  exact goes_same (by simp only [execOp,ho]) hr (build_sound he e)
 | buildSlice t n parts =>
  simp only [stepD,ho] at e
  split at e
  ·rename_i z b hes
   exact goes_quiet (by simp only [execOp,ho]) (buildSlice_sound hr he hes e)
  ·simp at e
 | load t y =>
  simp only [stepD,ho] at e
  exact goes_same (by simp only [execOp,ho]) hr (aLoad_sound hr e (he y))
 | nilCheck y =>
  simp only [stepD,ho] at e
  obtain ⟨h1,h2⟩:=nilCheck_sound e (he y)
  refine goes_value (v:=a.eval y) ?_ hr h2
  rcases h1 with ⟨p,hp⟩ | ⟨f,cs,hp⟩
  ·simp [execOp,ho,hp]
  ·simp [execOp,ho,hp]
 | binOp op t p q t' =>
  simp only [stepD,ho] at e
  cases hb:aBin C.P op t (isConst p||isConst q) (ev p) (ev q) with
  | some v =>
   simp only [hb,orV,Option.some.injEq] at e
   subst e
   exact goes_same (by simp only [execOp,ho]) hr (aBin_sound (ty:=t) op rfl hb (he p) (he q))
  | none =>
   simp only [hb,orV] at e
   exact goes_same (by simp only [execOp,ho]) hr (nilEq_sound (ty:=t) (x:=p) (y:=q) (heapC_or q h) op e (he p) (he q))
 | unOp op t p =>
  simp only [stepD,ho] at e
  exact goes_same (by simp only [execOp,ho]) hr (aUn_sound e (he p))
 | convert t u y =>
  simp only [stepD,ho] at e
  exact goes_quiet (by simp only [execOp,ho]) (convert_sound hr e (he y))
 | makeInterface t y =>
  simp only [stepD,ho] at e
  exact goes_same (by simp only [execOp,ho]) hr (iface_sound e (he y))
 | makeFunc f first captured =>
  cases f with
  | func g =>
   simp only [stepD,ho] at e
   split at e
   ·rename_i h0
    simp only [Option.some.injEq] at e
    subst e
    refine goes_value (v:=.func (.func g) #[] (captured.toList.map a.eval).toArray) ?_ hr ⟨_,rfl,evs_rep he _⟩
    have h1:first.map a.eval=#[]:=by
     have:first=#[]:=Array.eq_empty_of_size_eq_zero h0
     rw [this];simp
    have h2:captured.map a.eval=(captured.toList.map a.eval).toArray:=by apply Array.ext';simp
    simp only [execOp,ho,Instr.makeFunc,h1,h2,pure_bind]
   ·split at e
    ·rename_i h0
     simp only [Option.some.injEq] at e
     subst e
     refine goes_value (v:=.func (.func g) (first.toList.map a.eval).toArray #[]) ?_ hr ⟨_,rfl,evs_rep he _⟩
     have h1:captured.map a.eval=#[]:=by
      have:captured=#[]:=Array.eq_empty_of_size_eq_zero h0
      rw [this];simp
     have h2:first.map a.eval=(first.toList.map a.eval).toArray:=by apply Array.ext';simp
     simp only [execOp,ho,Instr.makeFunc,h1,h2,pure_bind]
    ·simp at e
  | _=>simp [stepD,ho] at e
 | slice t y lo hi mx =>
  cases mx with
  | none =>
   simp only [stepD,ho] at e
   cases ht:tk C.P t with
   | str =>
    simp only [ht,sliceV] at e
    exact goes_same (by simp only [execOp,ho,Option.map_none]) hr (sliceS_sound ht e (he y) (evo_rep he lo) (evo_rep he hi))
   | slice z b =>
    simp only [ht,sliceV] at e
    exact goes_same (by simp only [execOp,ho,Option.map_none]) hr (sliceR_sound ht hr e (he y) (evo_rep he lo) (evo_rep he hi))
   | arr n =>
    simp only [ht,sliceV] at e
    exact goes_same (by simp only [execOp,ho,Option.map_none]) hr (sliceArr_sound ht e (he y) (evo_rep he lo) (evo_rep he hi))
   | other=>simp [ht,sliceV] at e
  | some m =>
   cases lo with
   | none =>
    cases hi with
    | none=>simp [stepD,ho] at e
    | some hi =>
     simp only [stepD,ho] at e
     exact goes_same (by simp only [execOp,ho,Option.map_some,Option.map_none]) hr (slice2n_sound e (he y) (he hi) (he m))
   | some lo =>
    cases hi with
    | none=>simp [stepD,ho] at e
    | some hi =>
     simp only [stepD,ho] at e
     exact goes_same (by simp only [execOp,ho,Option.map_some]) hr (slice3_sound e (he y) (he lo) (he hi) (he m))
 | fieldAddr t y f =>
  simp only [stepD,ho] at e
  exact goes_same (by simp only [execOp,ho]) hr (fieldA_sound e (he y))
 | field t y f =>
  simp only [stepD,ho] at e
  exact goes_same (by simp only [execOp,ho]) hr (fieldV_sound e (he y))
 | indexAddr t y i =>
  simp only [stepD,ho] at e
  exact goes_same (by simp only [execOp,ho]) hr (indexP_sound e (he y) (he i))
 | index t y i =>
  simp only [stepD,ho] at e
  exact goes_same (by simp only [execOp,ho]) hr (indexS_sound e (he y) (he i))
 | lookup t y i ok =>
  simp only [stepD,ho] at e
  exact goes_same (by simp only [execOp,ho]) hr (lookup_sound hr e (he y) (he i))
 | extract y i =>
  simp only [stepD,ho] at e
  exact goes_same (by simp only [execOp,ho]) hr (extract_sound e (he y))
 | call c =>
  simp only [stepD,ho,callOpD] at e
  split at e
  ·rename_i f hc
   exact callD_sound hF hr he ho hc e
  ·rename_i b hc
   exact builtinD_sound hr he ho hc e
  ·simp at e
 | _=>simp [stepD,ho] at e
end
section
variable {Bs:World→Prop}
def Mp.set (μ:Mp Bs) (l:Nat) (b:Option Nat):Mp Bs:=⟨fun i=>if i=l then b else μ i,μ.out,μ.still⟩
end
section
variable {Bs:World→Prop}
variable {P:Program} {μ:Mp Bs} {h:Heap} {w:World} {a:Act} {o:Oper} {x:AV}
theorem heap_lt {b:Nat} {y:Obj} (hb:w.heap[b]? = some y):b < w.heap.size:=(Array.getElem?_eq_some_iff.1 hb).1
theorem cell_lt {b o:Nat} {v:Value} (hc:w.cell? ⟨b,o,none⟩=some v):b < w.heap.size:=by
 by_cases hlt:b < w.heap.size
 ·exact hlt
 ·simp [World.cell?,Array.getElem?_eq_none (Nat.le_of_not_lt hlt)] at hc
theorem alloc_old {b:Nat} (y:Obj) (hb:b < w.heap.size):(w.alloc y).heap[b]? = w.heap[b]? := by
 simp only [World.alloc];rw [Array.getElem?_push,if_neg (by omega)]
theorem alloc_new (y:Obj):(w.alloc y).heap[w.heap.size]? = some y:=by
 show (w.heap.push y)[w.heap.size]? = some y
 simp
def grow (w:World):Option Obj→World
 | some y=>w.alloc y
 | none=>w
theorem grow_old {b:Nat} (ob:Option Obj) (hb:b < w.heap.size):(grow w ob).heap[b]? = w.heap[b]? := by
 cases ob with
 | none=>rfl
 | some y=>exact alloc_old y hb
theorem grow_size (ob:Option Obj):w.heap.size≤(grow w ob).heap.size:=by
 cases ob with
 | none=>exact Nat.le_refl _
 | some y=>show _≤(w.alloc y).heap.size;simp
theorem set_same (l:Nat) (b:Option Nat):(μ.set l b) l=b:=by simp [Mp.set]
theorem set_other {l i:Nat} (b:Option Nat) (hi:i≠l):(μ.set l b) i=μ i:=by simp [Mp.set,hi]
theorem Ext.push (hr:Rel μ h w) (k:Blk) (ob:Option Obj):Ext μ h w (μ.set h.length (ob.map fun _=>w.heap.size)) (h++[k]) (grow w ob) where
 out:=rfl
 still:=rfl
 os:=by cases ob<;>rfl
 tape:=by cases ob<;>rfl
 output:=by cases ob<;>rfl
 size:=grow_size ob
 len:=by simp
 maps:=fun l es hl=>by
  have hlt:=(List.getElem?_eq_some_iff.1 hl).1
  exact ⟨⟨es,by rw [List.getElem?_append_left hlt];exact hl⟩,set_other _ (by omega)⟩
 keep:=fun b o v hc hm=>by
  have hlt:=cell_lt hc
  refine ⟨?_,?_⟩
  ·simp only [World.cell?] at hc ⊢;rw [grow_old ob hlt];exact hc
  ·rintro (ho | ⟨l,k',hl,hm',ho⟩)
   ·exact hm (.inl ho)
   ·by_cases hll:l=h.length
    ·subst hll
     rw [set_same] at hm'
     cases ob with
     | none=>simp at hm'
     | some y=>simp at hm';omega
    ·rw [set_other _ hll] at hm'
     have hl2:l < h.length:=by
      have:=(List.getElem?_eq_some_iff.1 hl).1
      simp at this;omega
     rw [List.getElem?_append_left hl2] at hl
     exact hm (.inr ⟨l,k',hl,hm',ho⟩)
 outside:=fun b hb ho=>by
  refine ⟨grow_old ob hb,fun l hl=>?_⟩
  by_cases hll:l=h.length
  ·subst hll
   rw [set_same]
   cases ob with
   | none=>simp
   | some y=>simp;omega
  ·rw [set_other _ hll]
   exact ho l (by simp at hl;omega)
 cells:=fun l cs hl=>by
  have hlt:=(List.getElem?_eq_some_iff.1 hl).1
  exact ⟨⟨cs,by rw [List.getElem?_append_left hlt];exact hl⟩,set_other _ (by omega)⟩
 rows:=fun l z rs wr hl=>by
  have hlt:=(List.getElem?_eq_some_iff.1 hl).1
  exact ⟨rs,wr,by rw [List.getElem?_append_left hlt];exact hl,Nat.le_refl _,fun _=>set_other _ (by omega)⟩
 sizes:=fun b vs T hb=>⟨vs,hb.eq (grow_old ob hb.lt),rfl⟩
theorem Rel.push (hr:Rel μ h w) (k:Blk) (ob:Option Obj)
  (hk:BlkRel (μ.set h.length (ob.map fun _=>w.heap.size)) (h++[k]) (grow w ob) h.length k) :
  Rel (μ.set h.length (ob.map fun _=>w.heap.size)) (h++[k]) (grow w ob) where
 inj:=fun l l' b hl hl' hm hm'=>by
  simp only [List.length_append,List.length_singleton] at hl hl'
  by_cases h1:l=h.length<;>by_cases h2:l'=h.length
  ·omega
  ·subst h1
   rw [set_same] at hm
   rw [set_other _ h2] at hm'
   cases ob with
   | none=>simp at hm
   | some y =>
    simp at hm
    have:=hr.mapped (by omega) hm'
    omega
  ·subst h2
   rw [set_same] at hm'
   rw [set_other _ h1] at hm
   cases ob with
   | none=>simp at hm'
   | some y =>
    simp at hm'
    have:=hr.mapped (by omega) hm
    omega
  ·rw [set_other _ h1] at hm
   rw [set_other _ h2] at hm'
   exact hr.inj l l' b (by omega) (by omega) hm hm'
 blk:=fun l k' hl=>by
  by_cases h1:l=h.length
  ·subst h1
   simp at hl
   subst hl
   exact hk
  ·have hlt:l < h.length:=by
    have:=(List.getElem?_eq_some_iff.1 hl).1
    simp at this;omega
   rw [List.getElem?_append_left hlt] at hl
   have e:=Ext.push hr k ob
   have hsame:∀ b,b < w.heap.size→(grow w ob).heap[b]? = w.heap[b]? := fun b hb=>grow_old ob hb
   have:=hr.blk l k' hl
   cases k' with
   | cells cs =>
    obtain ⟨b,vs,T,h3,h4,h5,h6⟩:=this
    exact ⟨b,vs,T,by rw [set_other _ h1];exact h3,by rw [hsame b (heap_lt h4)];exact h4,h5,RepL.ext e cs vs h6⟩
   | rows z rs wr =>
    rcases this with ⟨h3,h4⟩ | ⟨b,vs,T,h3,h4,h5,h6⟩
    ·exact .inl ⟨h3,by rw [set_other _ h1];exact h4⟩
    ·exact .inr ⟨b,vs,T,by rw [set_other _ h1];exact h3,h4.eq (hsame b h4.lt),h5,h6.ext e⟩
   | hole =>
    show (μ.set h.length (ob.map fun _=>w.heap.size)) l=none
    rw [set_other _ h1];exact this
   | map es =>
    obtain ⟨b,ms,c,h3,h4,h5⟩:=this
    exact ⟨b,ms,c,by rw [set_other _ h1];exact h3,by rw [hsame b (heap_lt h4)];exact h4,h5.keep e.keep⟩
 apart:=fun l b o hl hm ho=>by
  by_cases h1:l=h.length
  ·subst h1
   rw [set_same] at hm
   have:=hr.old b o ho
   cases ob with
   | none=>simp at hm
   | some y=>simp at hm;omega
  ·rw [set_other _ h1] at hm
   exact hr.apart l b o (by simp at hl;omega) hm ho
 old:=fun b o ho=>Nat.lt_of_lt_of_le (hr.old b o ho) (Ext.push hr k ob).size
 still:=(hr.carry (Ext.push hr k ob)).1
 base:=(hr.carry (Ext.push hr k ob)).2
theorem newVar_run (t:TypeId) (v:Value):(newVar t v).run P w=.ok ⟨w.heap.size,0,none⟩ (w.alloc (.cells v.cells t)):=rfl
theorem alloc_goes {t:TypeId} {v:Value} {y:AV} {h':Heap} (hr:Rel μ h w) (e:alloc h (some y)=some (x,h')) (hy:Rep μ h w y v)
  (hrun:(execOp a.eval o).run P w=.ok (.value (.pointer (some ⟨w.heap.size,0,none⟩))) (w.alloc (.cells v.cells t))):Goes P o a μ h w x h':=by
 simp only [Go.Ab.alloc] at e
 split at e
 ·rename_i cs hcs
  simp only [Option.some.injEq,Prod.mk.injEq] at e
  obtain ⟨rfl,rfl⟩:=e
  obtain ⟨hs,hl⟩:=cellsOf_sound hcs hy
  intro next Q hn
  unfold Oper.wp
  rw [hrun]
  have hp:=Ext.push hr (.cells cs) (some (.cells v.cells t))
  refine hn _ (μ.set h.length (some w.heap.size)) (w.alloc (.cells v.cells t)) (Rel.push hr (.cells cs) (some (.cells v.cells t)) ?_) hp ?_
  ·exact ⟨w.heap.size,v.cells.toList,t,set_same _ _,by rw [Array.toArray_toList];exact alloc_new _,hs,RepL.ext hp cs _ hl⟩
  ·exact ⟨cs,w.heap.size,by simp,set_same _ _,rfl⟩
 ·simp at e
theorem talloc_goes {t:TypeId} {v:Value} {y:AV} {h':Heap} (hr:Rel μ h w) (e:tyP t (alloc h (some y))=some (x,h')) (hy:Rep μ h w y v)
  (hrun:(execOp a.eval o).run P w=.ok (.value (.pointer (some ⟨w.heap.size,0,none⟩))) (w.alloc (.cells v.cells t))):Goes P o a μ h w x h':=by
 simp only [Go.Ab.alloc] at e
 cases hcs:cellsOf y with
 | none=>simp [hcs,tyP] at e
 | some cs =>
  simp only [hcs,tyP,Option.some.injEq,Prod.mk.injEq] at e
  obtain ⟨rfl,rfl⟩:=e
  obtain ⟨hs,hl⟩:=cellsOf_sound hcs hy
  intro next Q hn
  unfold Oper.wp
  rw [hrun]
  have hp:=Ext.push hr (.cells cs) (some (.cells v.cells t))
  refine hn _ (μ.set h.length (some w.heap.size)) (w.alloc (.cells v.cells t)) (Rel.push hr (.cells cs) (some (.cells v.cells t)) ?_) hp ?_
  ·exact ⟨w.heap.size,v.cells.toList,t,set_same _ _,by rw [Array.toArray_toList];exact alloc_new _,hs,RepL.ext hp cs _ hl⟩
  ·exact ⟨cs,w.heap.size,by simp,set_same _ _,rfl,v.cells,⟨_,alloc_new _⟩⟩
def sameKind:Blk→Blk→Prop
 | .cells _,.cells _=>True
 | .rows z rs _,.rows z' rs' _=>z=z'∧rs.length≤rs'.length
 | _,_=>False
theorem Ext.update {l b:Nat} {k k':Blk} {vs vs':Array Value} {T:TypeId} {fz fz':Nat×Nat} {w':World} (hr:Rel μ h w) (hl:h[l]? = some k) (hm:μ l=some b) (hb:w.heap[b]? = some (.cells vs T fz))
  (h1:w'.heap[b]? = some (.cells vs' T fz')) (h2:∀ b',b'≠b→w'.heap[b']? = w.heap[b']?) (h3:w'.os=w.os) (h4:w'.tape=w.tape) (h5:w'.output=w.output) (h6:w.heap.size≤w'.heap.size)
  (hsz:vs'.size=vs.size) (hkeep:∀ o v,vs[o]? = some v→¬k.open_ o→vs'[o]? = some v) (hopen:∀ o,k'.open_ o→k.open_ o) (hk:sameKind k k'):Ext μ h w μ (h.set l k') w' where
 out:=rfl
 still:=rfl
 os:=h3
 tape:=h4
 output:=h5
 size:=h6
 len:=by simp
 maps:=fun l' es hl'=>by
  refine ⟨?_,rfl⟩
  have hll:l < h.length:=(List.getElem?_eq_some_iff.1 hl).1
  by_cases hll':l=l'
  ·subst hll'
   rw [hl] at hl'
   simp only [Option.some.injEq] at hl'
   subst hl'
   exact hk.elim
  ·exact ⟨es,by rw [List.getElem?_set_ne hll'];exact hl'⟩
 keep:=fun b' o v hc hmu=>by
  have hll:l < h.length:=(List.getElem?_eq_some_iff.1 hl).1
  refine ⟨?_,?_⟩
  ·by_cases hbb:b'=b
   ·subst hbb
    have hno:¬k.open_ o:=fun ho=>hmu (.inr ⟨l,k,hl,hm,ho⟩)
    simp only [World.cell?,hb] at hc
    simp only [World.cell?,h1]
    exact hkeep o v (by simpa using hc) hno
   ·simp only [World.cell?] at hc ⊢
    rw [h2 b' hbb];exact hc
  ·rintro (ho | ⟨l',k2,hl2,hm2,ho⟩)
   ·exact hmu (.inl ho)
   ·by_cases hll':l=l'
    ·subst hll'
     rw [List.getElem?_set_self hll] at hl2
     simp only [Option.some.injEq] at hl2
     subst hl2
     exact hmu (.inr ⟨l,k,hl,hm2,hopen o ho⟩)
    ·rw [List.getElem?_set_ne hll'] at hl2
     exact hmu (.inr ⟨l',k2,hl2,hm2,ho⟩)
 outside:=fun b' hlt ho=>⟨h2 b' fun e=>by
   subst e
   exact ho l (List.getElem?_eq_some_iff.1 hl).1 hm,fun l' hl'=>ho l' (by simpa using hl')⟩
 cells:=fun l' cs hl'=>by
  refine ⟨?_,rfl⟩
  have hll:l < h.length:=(List.getElem?_eq_some_iff.1 hl).1
  by_cases hll':l=l'
  ·subst hll'
   rw [hl] at hl'
   simp only [Option.some.injEq] at hl'
   subst hl'
   cases k' with
   | cells cs'=>exact ⟨cs',by rw [List.getElem?_set_self hll]⟩
   | rows _ _ _=>exact hk.elim
   | hole=>exact hk.elim
   | map _=>exact hk.elim
  ·exact ⟨cs,by rw [List.getElem?_set_ne hll'];exact hl'⟩
 rows:=fun l' z rs wr hl'=>by
  have hll:l < h.length:=(List.getElem?_eq_some_iff.1 hl).1
  by_cases hll':l=l'
  ·subst hll'
   rw [hl] at hl'
   simp only [Option.some.injEq] at hl'
   subst hl'
   cases k' with
   | cells cs'=>exact hk.elim
   | hole=>exact hk.elim
   | map _=>exact hk.elim
   | rows z' rs' wr' =>
    obtain ⟨rfl,hle⟩:=hk
    exact ⟨rs',wr',by rw [List.getElem?_set_self hll],hle,fun _=>rfl⟩
  ·exact ⟨rs,wr,by rw [List.getElem?_set_ne hll'];exact hl',Nat.le_refl _,fun _=>rfl⟩
 sizes:=fun b' vs2 T2 hb2=>by
  by_cases hbb:b'=b
  ·subst hbb
   obtain ⟨fz2,hb2⟩:=hb2
   rw [hb] at hb2
   simp only [Option.some.injEq,Obj.cells.injEq] at hb2
   obtain ⟨rfl,rfl,_⟩:=hb2
   exact ⟨vs',⟨_,h1⟩,hsz⟩
  ·exact ⟨vs2,hb2.eq (h2 b' hbb),rfl⟩
theorem Rel.update {l b:Nat} {k k':Blk} {w':World} (hr:Rel μ h w) (hl:h[l]? = some k) (hm:μ l=some b) (h2:∀ b',b'≠b→w'.heap[b']? = w.heap[b']?)
  (e:Ext μ h w μ (h.set l k') w') (hnew:BlkRel μ (h.set l k') w' l k'):Rel μ (h.set l k') w' where
 inj:=fun l1 l2 b' hl1 hl2=>hr.inj l1 l2 b' (by simpa using hl1) (by simpa using hl2)
 blk:=fun l' k2 hl'=>by
  have hll:l < h.length:=(List.getElem?_eq_some_iff.1 hl).1
  by_cases hll':l=l'
  ·subst hll'
   rw [List.getElem?_set_self hll] at hl'
   simp only [Option.some.injEq] at hl'
   subst hl'
   exact hnew
  ·rw [List.getElem?_set_ne hll'] at hl'
   have hlt:l' < h.length:=(List.getElem?_eq_some_iff.1 hl').1
   have hne:∀ b',μ l'=some b'→b'≠b:=fun b' hb' e=>by
    subst e
    exact hll' (hr.inj l l' b' hll hlt hm hb')
   have:=hr.blk l' k2 hl'
   cases k2 with
   | cells cs =>
    obtain ⟨b',vs,T,h3,h4,h5,h6⟩:=this
    exact ⟨b',vs,T,h3,by rw [h2 b' (hne b' h3)];exact h4,h5,RepL.ext e cs vs h6⟩
   | rows z rs wr =>
    rcases this with h0 | ⟨b',vs,T,h3,h4,h5,h6⟩
    ·exact .inl h0
    ·exact .inr ⟨b',vs,T,h3,h4.eq (h2 b' (hne b' h3)),h5,h6.ext e⟩
   | hole=>exact this
   | map es =>
    obtain ⟨b',ms,c,h3,h4,h5⟩:=this
    exact ⟨b',ms,c,h3,by rw [h2 b' (hne b' h3)];exact h4,h5.keep e.keep⟩
 apart:=fun l' b' o hl'=>hr.apart l' b' o (by simpa using hl')
 old:=fun b' o ho=>Nat.lt_of_lt_of_le (hr.old b' o ho) e.size
 still:=(hr.carry e).1
 base:=(hr.carry e).2
theorem one_cell {c:AV} {v:Value} (hs:single c=true) (hc:Rep μ h w c v):v.oneCell'=true:=by
 cases c with
 | agg _=>simp [single] at hs
 | tup _=>simp [single] at hs
 | any=>simp [single] at hs
 | int k n=>have:v=_:=hc;subst this;rfl
 | bool b=>have:v=_:=hc;subst this;rfl
 | str s=>have:v=_:=hc;subst this;rfl
 | nilp=>have:v=_:=hc;subst this;rfl
 | nilf=>have:v=_:=hc;subst this;rfl
 | nili=>have:v=_:=hc;subst this;rfl
 | emp _=>obtain ⟨_,_,rfl,_⟩:=hc;rfl
 | nilm=>have:v=_:=hc;subst this;rfl
 | nils=>have:v=_:=hc;subst this;rfl
 | rows rs=>obtain ⟨b,c,rfl,_⟩:=hc;rfl
 | lit rs=>obtain ⟨b,rfl,_⟩:=hc;rfl
 | rptr r o=>obtain ⟨b,c,rfl,_⟩:=hc;rfl
 | fn f cs'=>obtain ⟨b,rfl,_⟩:=hc;rfl
 | bnd f cs'=>obtain ⟨b,rfl,_⟩:=hc;rfl
 | iface t a=>obtain ⟨b,rfl,_⟩:=hc;rfl
 | ptr l o=>obtain ⟨b,c,h1,h2,rfl⟩:=hc;rfl
 | own l n=>obtain ⟨_,_,_,_,_,_,_,rfl,_⟩:=hc;rfl
 | optr l n i o=>obtain ⟨_,_,_,_,_,_,rfl,_⟩:=hc;rfl
 | mp l=>obtain ⟨_,_,_,_,rfl⟩:=hc;rfl
 | tptr t l o=>obtain ⟨_,_,_,_,rfl,_⟩:=hc;rfl
 | town t l n=>obtain ⟨_,_,_,_,_,_,_,rfl,_⟩:=hc;rfl
 | vw l n a m=>obtain ⟨_,_,_,_,_,_,_,rfl,_⟩:=hc;rfl
theorem one_cells:∀ {cs:List AV} {vs:List Value},singles cs=true→RepL μ h w cs vs→∀ v∈vs,v.oneCell'=true
 | [],vs,_,r,v,hv=>by
  have:vs=[]:=r
  subst this
  simp at hv
 | c::cs,_,hs,r,v,hv=>by
  obtain ⟨u,vr,rfl,h1,h2⟩:=r
  simp only [singles,Bool.and_eq_true] at hs
  rcases List.mem_cons.1 hv with rfl | hv
  ·exact one_cell hs.1 h1
  ·exact one_cells hs.2 h2 v hv
theorem szOf_run {t:TypeId} {n:Nat} (e:szOf P t=some n):(sizeOf t).run P w=.ok n w:=by
 unfold szOf at e
 split at e
 ·rename_i i hi
  simp only [Option.some.injEq] at e
  simp [sizeOf,typeInfo,hi,e]
 ·simp at e
theorem store_run {t:TypeId} {b p:Nat} {v:Value} {cur:Array Value} {T:TypeId} (hz:szOf P t=some v.cells.toList.length) (hb:w.heap[b]? = some (.cells cur T (0,0))) (hl:p+v.cells.toList.length≤cur.size)
  (h1:∀ u∈v.cells.toList,u.oneCell'=true):(Instr.storeAt t (.pointer (some ⟨b,p,none⟩)) v).run P w=.ok () (w.setRow b (cur.toList.take p++v.cells.toList++cur.toList.drop (p+v.cells.toList.length)).toArray):=by
 have h2:=run_storeCells_at (P:=P) b p T v.cells.toList 0 cur w hb (by simpa using hl) h1
 have h3:v.cells.size=v.cells.toList.length:=by simp
 simp only [Instr.storeAt,Instr.sureAddr,pure_bind,storeVar,Sem.run_bind,szOf_run hz,Result.andThen_ok,Sem.run_ite]
 rw [if_neg (by omega)]
 simpa using h2
theorem goes_skip {h':Heap} {w':World} {μ':Mp Bs} (hrun:(execOp a.eval o).run P w=.ok .skip w') (hr:Rel μ' h' w') (he:Ext μ h w μ' h' w'):Goes P o a μ h w .any h':=by
 intro next Q hn
 unfold Oper.wp
 rw [hrun]
 exact hn undef μ' w' hr he trivial
theorem list_get_splice (l us:List Value) (p i:Nat) (hp:p+us.length≤l.length):(l.take p++us++l.drop (p+us.length))[i]? = if i < p then l[i]? else if i < p+us.length then us[i - p]? else l[i]? := by
 have h1:(l.take p).length=p:=by simp;omega
 by_cases hi:i < p
 ·rw [if_pos hi,List.append_assoc,List.getElem?_append_left (by omega),List.getElem?_take,if_pos hi]
 ·rw [if_neg hi]
  by_cases hi2:i < p+us.length
  ·rw [if_pos hi2,List.append_assoc,List.getElem?_append_right (by omega),List.getElem?_append_left (by omega),h1]
  ·rw [if_neg hi2,List.getElem?_append_right (by simp;omega),List.getElem?_drop]
   congr 1
   simp
   omega
theorem keptA_sound (hr:Rel μ h w) (a:AV) (v:Value) (r:Rep μ h w a v):Rep μ h w (keptA h a) v:=by
 unfold keptA
 split
 ·rename_i x hx;exact Rep.pure _ _ (purify_sound hr _ _ _ hx r)
 ·exact r
theorem store_goes {t:TypeId} {y z:Operand} {ev:Operand→AV} {h':Heap} (hr:Rel μ h w) (he:EvRep μ h w ev a.eval) (ho:o.op=.store t y z) (e:aStore P t (ev y) (ev z) h=some h'):Goes P o a μ h w .any h':=by
 have hy:=he y
 have hz:=he z
 have hexec:execOp a.eval o=(do Instr.storeAt t (a.eval y) (a.eval z);pure .skip):=by simp only [execOp,ho]
 unfold aStore at e
 split at e
 ·rename_i l p hev
  rw [hev] at hy
  split at e
  ·rename_i cs hl
   split at e
   ·rename_i ns hns
    split at e
    ·rename_i hc
     obtain ⟨hsz,hle⟩:=hc
     simp only [Option.some.injEq] at e
     subst e
     obtain ⟨hs1,hrl⟩:=cellsOf_sound hns hz
     obtain ⟨cs',b,hl',hm,hv⟩:=hy
     obtain ⟨b',vs,T,hm',hw,hs2,hrl2⟩:=hr.blk l _ hl
     have:b'=b:=by rw [hm] at hm';simpa using hm'.symm
     subst this
     have hlen1:=hrl.len
     have hlen2:=hrl2.len
     have hle':p+(a.eval z).cells.toList.length≤vs.length:=by omega
     have hrun:=store_run (P:=P) (t:=t) (b:=b') (p:=p) (v:=a.eval z) (cur:=vs.toArray) (T:=T) (w:=w) (by rw [hlen1];exact hsz) hw (by simpa using hle') (one_cells hs1 hrl)
     have ex:Ext μ h w μ (h.set l (.cells (splice cs p ns))) (w.setRow b' (vs.take p++(a.eval z).cells.toList++vs.drop (p+(a.eval z).cells.toList.length)).toArray) :=
      Ext.update hr hl hm hw (setRow_heap w b' _ _ T _ hw) (fun b2 hb2=>setRow_other w b' b2 _ hb2) rfl rfl rfl (by simp)
       (by simp;simp at hle';omega) (fun _ _ _ hno=>absurd trivial hno) (fun _ _=>trivial) trivial
     refine goes_skip (w':=w.setRow b' (vs.take p++(a.eval z).cells.toList++vs.drop (p+(a.eval z).cells.toList.length)).toArray) ?_ (Rel.update hr hl hm (fun b2 hb2=>setRow_other w b' b2 _ hb2) ex ?_) ex
     ·rw [hexec,hv]
      simp only [Sem.run_bind,hrun,Result.andThen_ok,Sem.run_pure]
     ·exact ⟨b',_,T,hm,setRow_heap w b' _ _ T _ hw,singles_splice p hs2 hs1,RepL.splice p (RepL.ext ex cs vs hrl2) (RepL.ext ex ns _ hrl)⟩
    ·simp at e
   ·simp at e
  ·simp at e
 ·rename_i l n i p hev
  rw [hev] at hy
  split at e
  ·rename_i sz rs hl
   ·split at e
    ·rename_i ns hns
     split at e
     ·rename_i hn
      split at e
      ·rename_i row hrow
       split at e
       ·rename_i hc
        obtain ⟨hsz,hle⟩:=hc
        simp only [Option.some.injEq] at e
        subst e
        obtain ⟨hs1,hrl⟩:=cellsOf_sound hns (keptA_sound hr _ _ hz)
        obtain ⟨z',rs',wr',b,hl',_,hv,hmm⟩:=hy
        rw [hl] at hl'
        simp only [Option.some.injEq,Blk.rows.injEq] at hl'
        obtain ⟨rfl,rfl,rfl⟩:=hl'
        have hm:=hmm hn.symm
        have hlen1:=hrl.len
        rcases hr.blk l _ hl with ⟨_,h0⟩ | ⟨b',vs,T,hm',hw,hlenv,hin⟩
        ·rw [hm] at h0;simp at h0
        ·have:b'=b:=by rw [hm] at hm';simpa using hm'.symm
         subst this
         obtain ⟨fz,hw,hfz⟩:=hw
         have hfz:fz=(0,0):=by
          rcases hfz with h | h
          ·exact h
          ·exact absurd h.1 (by simp)
         subst hfz
         obtain ⟨hr1,hr2,hr3⟩:=hin i row hrow
         have hi:i < rs.length:=(List.getElem?_eq_some_iff.1 hrow).1
         have hrowend:i*sz+sz≤rs.length*sz:=by rw [←Nat.succ_mul];exact Nat.mul_le_mul_right sz hi
         have hle':i*sz+p+(a.eval z).cells.toList.length≤vs.size:=by omega
         have hrun:=store_run (P:=P) (t:=t) (b:=b') (p:=i*sz+p) (v:=a.eval z) (cur:=vs) (T:=T) (w:=w) (by rw [hlen1];exact hsz) hw hle' (one_cells hs1 hrl)
         have hsize:(vs.toList.take (i*sz+p)++(a.eval z).cells.toList++vs.toList.drop (i*sz+p+(a.eval z).cells.toList.length)).toArray.size=vs.size:=by
          simp;simp at hle';omega
         have ex:Ext μ h w μ (h.set l (.rows sz (rs.set i (splice row p ns)) true)) (w.setRow b' (vs.toList.take (i*sz+p)++(a.eval z).cells.toList++vs.toList.drop (i*sz+p+(a.eval z).cells.toList.length)).toArray) :=
          Ext.update hr hl hm hw (setRow_heap w b' _ _ T _ hw) (fun b2 hb2=>setRow_other w b' b2 _ hb2) rfl rfl rfl (by simp)
           hsize (fun _ _ _ hno=>absurd (.inl rfl) hno) (fun _ _=>.inl rfl) ⟨rfl,by simp⟩
         refine goes_skip (w':=w.setRow b' (vs.toList.take (i*sz+p)++(a.eval z).cells.toList++vs.toList.drop (i*sz+p+(a.eval z).cells.toList.length)).toArray) ?_ (Rel.update hr hl hm (fun b2 hb2=>setRow_other w b' b2 _ hb2) ex ?_) ex
         ·rw [hexec,hv]
          simp only [Sem.run_bind,hrun,Result.andThen_ok,Sem.run_pure]
         ·refine .inr ⟨b',_,T,hm,.free (setRow_heap w b' _ _ T _ hw),by rw [hsize];simpa using hlenv,?_⟩
          intro i2 row2 hrow2
          have hget:=list_get_splice vs.toList (a.eval z).cells.toList (i*sz+p)
          by_cases hii:i=i2
          ·subst hii
           rw [List.getElem?_set_self hi] at hrow2
           simp only [Option.some.injEq] at hrow2
           subst hrow2
           refine ⟨by unfold splice;simp;omega,singles_splice p hr2 hs1,fun c a' hc=>?_⟩
           have hcl:c < row.length:=by
            have:=(List.getElem?_eq_some_iff.1 hc).1
            unfold splice at this;simp at this;omega
           simp only [List.getElem?_toArray]
           rw [hget _ (by simpa using hle')]
           unfold splice at hc
           by_cases hc1:c < p
           ·rw [if_pos (by omega)]
            rw [List.append_assoc,List.getElem?_append_left (by simp;omega),List.getElem?_take,if_pos hc1] at hc
            obtain ⟨u,h7,h8⟩:=hr3 c a' hc
            exact ⟨u,by simpa using h7,Rep.ext ex a' u h8⟩
           ·rw [if_neg (by omega)]
            by_cases hc2:c < p+ns.length
            ·rw [if_pos (by omega)]
             rw [List.append_assoc,List.getElem?_append_right (by simp;omega),List.getElem?_append_left (by simp;omega)] at hc
             obtain ⟨u,h7,h8⟩:=(RepL.at ns _ hrl).2 _ a' hc
             refine ⟨u,?_,Rep.ext ex a' u h8⟩
             rw [←h7]
             congr 1
             simp
             omega
            ·rw [if_neg (by omega)]
             rw [List.getElem?_append_right (by simp;omega),List.getElem?_drop] at hc
             have hc':row[c]? = some a':=by
              rw [←hc]
              congr 1
              simp
              omega
             obtain ⟨u,h7,h8⟩:=hr3 c a' hc'
             exact ⟨u,by simpa using h7,Rep.ext ex a' u h8⟩
          ·rw [List.getElem?_set_ne hii] at hrow2
           obtain ⟨h4,h5,h6⟩:=hin i2 row2 hrow2
           refine ⟨h4,h5,fun c a' hc=>?_⟩
           obtain ⟨u,h7,h8⟩:=h6 c a' hc
           refine ⟨u,?_,Rep.ext ex a' u h8⟩
           have hcl:c < sz:=by rw [←h4];exact (List.getElem?_eq_some_iff.1 hc).1
           simp only [List.getElem?_toArray]
           rw [hget _ (by simpa using hle')]
           have hdisj:i2*sz+c < i*sz+p∨i*sz+p+(a.eval z).cells.toList.length≤i2*sz+c:=by
            rcases Nat.lt_or_gt_of_ne hii with hlt | hlt
            ·right
             have:i*sz+sz≤i2*sz:=by rw [←Nat.succ_mul];exact Nat.mul_le_mul_right sz hlt
             omega
            ·left
             have:i2*sz+sz≤i*sz:=by rw [←Nat.succ_mul];exact Nat.mul_le_mul_right sz hlt
             omega
           rcases hdisj with hd | hd
           ·rw [if_pos hd];simpa using h7
           ·rw [if_neg (by omega),if_neg (by omega)];simpa using h7
       ·simp at e
      ·simp at e
     ·simp at e
    ·simp at e
  ·simp at e
 ·simp at e
theorem rows_flat {M:Nat→Nat→Prop} {z b p:Nat} {rs:List (List AV)} (hp:PRows M w z b rs p) :
  ∃ flat:List Value,flat.length=rs.length*z∧(∀ j v,flat[j]? = some v→w.cell? ⟨b,p+j,none⟩=some v)∧RowsIn M w z rs flat.toArray:=by
 have hcell:∀ (i:Nat) (row:List AV),rs[i]? = some row→row.length=z∧singles row=true∧∀ c a,row[c]? = some a→∃ v,w.cell? ⟨b,p+(i*z+c),none⟩=some v∧PRep M w a v:=by
  intro i row hrow
  obtain ⟨h1,h2,h3⟩:=PRows.at rs p hp i row hrow
  refine ⟨h1,h2,fun c a ha=>?_⟩
  obtain ⟨v,h4,_,h5⟩:=PMem.at row _ h3 c a ha
  exact ⟨v,by rw [←Nat.add_assoc];exact h4,h5⟩
 obtain ⟨flat,hl,hv⟩:=gather (fun j=>w.cell? ⟨b,j,none⟩) p (rs.length*z) fun j hj=>by
  have hz:0 < z:=by
   rcases Nat.eq_zero_or_pos z with h0 | h0
   ·subst h0;simp at hj
   ·exact h0
  have hi:j / z < rs.length:=(Nat.div_lt_iff_lt_mul hz).2 hj
  obtain ⟨h1,_,h3⟩:=hcell (j / z) _ (List.getElem?_eq_getElem hi)
  have hc:j % z < (rs[j / z]).length:=by rw [h1];exact Nat.mod_lt _ hz
  obtain ⟨v,h4,_⟩:=h3 (j % z) _ (List.getElem?_eq_getElem hc)
  refine ⟨v,?_⟩
  rwa [show j / z*z+j % z=j from by rw [Nat.mul_comm];exact Nat.div_add_mod j z] at h4
 refine ⟨flat,hl,hv,fun i row hrow=>?_⟩
 obtain ⟨h1,h2,h3⟩:=hcell i row hrow
 refine ⟨h1,h2,fun c a ha=>?_⟩
 obtain ⟨v,h4,h5⟩:=h3 c a ha
 refine ⟨v,?_,h5⟩
 have hi:i < rs.length:=(List.getElem?_eq_some_iff.1 hrow).1
 have hc:c < z:=by rw [←h1];exact (List.getElem?_eq_some_iff.1 ha).1
 have hlt:i*z+c < flat.length:=by
  rw [hl]
  have:i*z+z≤rs.length*z:=by rw [←Nat.succ_mul];exact Nat.mul_le_mul_right z hi
  omega
 have h6:=hv (i*z+c) _ (List.getElem?_eq_getElem hlt)
 rw [h4] at h6
 simp only [Option.some.injEq] at h6
 rw [List.getElem?_toArray,List.getElem?_eq_getElem hlt,h6]
theorem rowsN_cells {z:Nat} {rs:List (List AV)} {flat:List Value} (hl:flat.length=rs.length*z) (hin:RowsN μ h w z rs flat.toArray):∀ v∈flat,v.oneCell'=true:=by
 intro v hv
 obtain ⟨j,hj⟩:=List.getElem?_of_mem hv
 have hjl:j < rs.length*z:=by rw [←hl];exact (List.getElem?_eq_some_iff.1 hj).1
 have hz:0 < z:=by
  rcases Nat.eq_zero_or_pos z with h0 | h0
  ·subst h0;simp at hjl
  ·exact h0
 have hi:j / z < rs.length:=(Nat.div_lt_iff_lt_mul hz).2 hjl
 obtain ⟨h1,h2,h3⟩:=hin (j / z) _ (List.getElem?_eq_getElem hi)
 have hc:j % z < (rs[j / z]).length:=by rw [h1];exact Nat.mod_lt _ hz
 obtain ⟨u,h4,h5⟩:=h3 (j % z) _ (List.getElem?_eq_getElem hc)
 rw [show j / z*z+j % z=j from by rw [Nat.mul_comm];exact Nat.div_add_mod j z] at h4
 simp only [List.getElem?_toArray,hj,Option.some.injEq] at h4
 subst h4
 have hs:single ((rs[j / z])[j % z])=true:=by
  have:∀ (l:List AV) (k:Nat) (hk:k < l.length),singles l=true→single l[k]=true:=by
   intro l
   induction l with
   | nil=>intro k hk;simp at hk
   | cons y l ih =>
    intro k hk hs
    simp only [singles,Bool.and_eq_true] at hs
    cases k with
    | zero=>exact hs.1
    | succ k=>exact ih k (by simpa using hk) hs.2
  exact this _ _ hc h2
 exact one_cell hs h5
theorem RowsIn.append {M:Nat→Nat→Prop} {z:Nat} {rs ys:List (List AV)} {fl fy:List Value} {rest:List Value} (hl:fl.length=rs.length*z) (hr:RowsIn M w z rs fl.toArray) (hy:RowsIn M w z ys fy.toArray) :
  RowsIn M w z (rs++ys) (fl++fy++rest).toArray:=by
 intro i row hrow
 by_cases hi:i < rs.length
 ·rw [List.getElem?_append_left hi] at hrow
  obtain ⟨h1,h2,h3⟩:=hr i row hrow
  refine ⟨h1,h2,fun c a ha=>?_⟩
  obtain ⟨v,h4,h5⟩:=h3 c a ha
  refine ⟨v,?_,h5⟩
  simp only [List.getElem?_toArray] at h4 ⊢
  have:=(List.getElem?_eq_some_iff.1 h4).1
  rw [List.append_assoc,List.getElem?_append_left this];exact h4
 ·rw [List.getElem?_append_right (by omega)] at hrow
  obtain ⟨h1,h2,h3⟩:=hy _ row hrow
  refine ⟨h1,h2,fun c a ha=>?_⟩
  obtain ⟨v,h4,h5⟩:=h3 c a ha
  refine ⟨v,?_,h5⟩
  simp only [List.getElem?_toArray] at h4 ⊢
  have h6:=(List.getElem?_eq_some_iff.1 h4).1
  have h7:i*z=rs.length*z+(i - rs.length)*z:=by rw [←Nat.add_mul];congr 1;omega
  rw [List.append_assoc,List.getElem?_append_right (by omega),List.getElem?_append_left (by omega),←h4]
  congr 1
  omega
theorem RowsN.append {z:Nat} {rs ys:List (List AV)} {fl fy:List Value} {rest:List Value} (hl:fl.length=rs.length*z) (hr:RowsN μ h w z rs fl.toArray) (hy:RowsN μ h w z ys fy.toArray) :
  RowsN μ h w z (rs++ys) (fl++fy++rest).toArray:=by
 intro i row hrow
 by_cases hi:i < rs.length
 ·rw [List.getElem?_append_left hi] at hrow
  obtain ⟨h1,h2,h3⟩:=hr i row hrow
  refine ⟨h1,h2,fun c a ha=>?_⟩
  obtain ⟨v,h4,h5⟩:=h3 c a ha
  refine ⟨v,?_,h5⟩
  simp only [List.getElem?_toArray] at h4 ⊢
  have:=(List.getElem?_eq_some_iff.1 h4).1
  rw [List.append_assoc,List.getElem?_append_left this];exact h4
 ·rw [List.getElem?_append_right (by omega)] at hrow
  obtain ⟨h1,h2,h3⟩:=hy _ row hrow
  refine ⟨h1,h2,fun c a ha=>?_⟩
  obtain ⟨v,h4,h5⟩:=h3 c a ha
  refine ⟨v,?_,h5⟩
  simp only [List.getElem?_toArray] at h4 ⊢
  have h6:=(List.getElem?_eq_some_iff.1 h4).1
  have h7:i*z=rs.length*z+(i - rs.length)*z:=by rw [←Nat.add_mul];congr 1;omega
  rw [List.append_assoc,List.getElem?_append_right (by omega),List.getElem?_append_left (by omega),←h4]
  congr 1
  omega
theorem firstCells_run {z n b p:Nat} {len cap:Nat} {flat:List Value} (hl:flat.length=n*z) (hv:∀ j v,flat[j]? = some v→w.cell? ⟨b,p+j,none⟩=some v) (w1:World) (h1:w1.heap=w.heap) :
  (Builtin.firstCells z n (.slice (some ⟨b,p,none⟩) len cap)).run P w1=.ok flat.toArray w1:=by
 have:=run_loadCells_list (P:=P) w1 ⟨b,p,none⟩ flat fun j v hj=>by
  rw [add_none]
  have:=hv j v hj
  simpa only [World.cell?,h1] using this
 simp only [Builtin.firstCells,←hl]
 exact this
theorem growBy_le (n:Nat):∀ (r c:Nat),256≤c→c≤2*n→Builtin.growBy n r c≤2*n
 | 0,c,_,h=>h
 | r+1,c,h1,h2=>by
  simp only [Builtin.growBy]
  split
  ·exact h2
  ·exact growBy_le n r _ (by omega) (by omega)
theorem nextcap_le {need cap:Nat} (hc:cap < need):Builtin.nextslicecap need cap≤2*need:=by
 unfold Builtin.nextslicecap
 split
 ·omega
 ·split
  ·omega
  ·exact growBy_le need 4 cap (by omega) (by omega)
def Src (P:Program) (μ:Mp Bs) (h:Heap) (w:World) (z:Nat) (ys:List (List AV)) (v:Value):Prop :=
 ∃ base cap flat,v=.slice base ys.length cap∧List.length flat=ys.length*z∧RowsN μ h w z ys flat.toArray∧∀ w1:World,w1.heap=w.heap→(Builtin.firstCells z ys.length v).run P w1=.ok flat.toArray w1
def Src2 (P:Program) (μ:Mp Bs) (h:Heap) (w:World) (z:Nat) (ys:List (List AV)) (v:Value):Prop :=
 ∃ flat,(∀ w1:World,(Builtin.lenOf v).run P w1=.ok ys.length w1)∧List.length flat=ys.length*z∧RowsN μ h w z ys flat.toArray∧∀ w1:World,w1.heap=w.heap→(Builtin.firstCells z ys.length v).run P w1=.ok flat.toArray w1
theorem Src.two {z:Nat} {ys:List (List AV)} {v:Value} (hs:Src P μ h w z ys v):Src2 P μ h w z ys v:=by
 obtain ⟨base,cap,flat,rfl,h1,h2,h3⟩:=hs
 exact ⟨flat,fun _=>rfl,h1,h2,h3⟩
theorem byteRows_length:∀ s:List UInt8,(byteRows s).length=s.length
 | []=>rfl
 | b::r=>by simp [byteRows,byteRows_length r]
theorem byteRows_get:∀ (s:List UInt8) (i:Nat),(byteRows s)[i]? = s[i]?.map fun b=>[.int .u8 (b.toNat:Int)]
 | [],i=>by simp [byteRows]
 | b::r,0=>by simp [byteRows]
 | b::r,i+1=>by simp only [byteRows,List.getElem?_cons_succ];exact byteRows_get r i
theorem src_str {s:List UInt8}:Src2 P μ h w 1 (byteRows s) (.string ⟨s.toArray⟩):=by
 refine ⟨s.map fun b=>.int .u8 (b.toNat:Int),fun w1=>by rw [byteRows_length];rfl,by simp [byteRows_length],fun i row hrow=>?_,fun w1 _=>?_⟩
 ·rw [byteRows_get] at hrow
  cases hb:s[i]? with
  | none=>rw [hb] at hrow;simp at hrow
  | some b =>
   rw [hb] at hrow
   simp only [Option.map_some,Option.some.injEq] at hrow
   subst hrow
   refine ⟨rfl,rfl,fun c a ha=>?_⟩
   have hc:c=0:=by have:=(List.getElem?_eq_some_iff.1 ha).1;simp at this;exact this
   subst hc
   simp only [List.getElem?_cons_zero,Option.some.injEq] at ha
   subst ha
   exact ⟨.int .u8 (b.toNat:Int),by simp [hb],rfl⟩
 ·rw [byteRows_length]
  have:s.length=(⟨s.toArray⟩:ByteArray).size:=rfl
  rw [this,Lib.run_firstCells_string]
  simp [Lib.strCells]
theorem src_of {z:Nat} {ys:List (List AV)} {base:Option Addr} {cap:Nat} (hz:allLen z ys=true) (hb:ys=[]∨∃ b p z',base=some ⟨b,p,none⟩∧PRows (Mut μ h) w z' b ys p):Src P μ h w z ys (.slice base ys.length cap):=by
 rcases hb with rfl | ⟨b,p,z',rfl,hp⟩
 ·refine ⟨base,cap,[],rfl,by simp,fun i row hrow=>by simp at hrow,fun w1 _=>?_⟩
  cases base with
  | none=>rfl
  | some ad =>
   simp only [Builtin.firstCells,List.length_nil,Nat.zero_mul]
   exact run_loadCells_list (P:=P) w1 ad [] fun j v hj=>by simp at hj
 ·cases ys with
  | nil =>
   refine ⟨_,cap,[],rfl,by simp,fun i row hrow=>by simp at hrow,fun w1 _=>?_⟩
   simp only [Builtin.firstCells,List.length_nil,Nat.zero_mul]
   exact run_loadCells_list (P:=P) w1 _ [] fun j v hj=>by simp at hj
  | cons y ys =>
   have hzz:z'=z:=by
    have h1:=(PRows.at _ p hp 0 y rfl).1
    have h2:=allLen_spec hz 0 y rfl
    omega
   subst hzz
   obtain ⟨flat,h1,h2,h3⟩:=rows_flat hp
   exact ⟨_,cap,flat,rfl,h1,h3.some,firstCells_run h1 h2⟩
theorem own_rows {l n z:Nat} {rs:List (List AV)} {wr:Bool} {v:Value} (hr:Rel μ h w) (hl:h[l]? = some (.rows z rs wr)) (hn:rs.length=n) (hv:OwnRep μ h w l n v) :
  ∃ base cap flat,v=.slice base rs.length cap∧rs.length≤cap∧List.length flat=rs.length*z∧RowsN μ h w z rs flat.toArray∧(∀ w1:World,w1.heap=w.heap→(Builtin.firstCells z rs.length v).run P w1=.ok flat.toArray w1) ∧
   ((cap=0∧rs=[])∨∃ b vs T,base=some ⟨b,0,none⟩∧μ l=some b∧RowAt w b vs T wr (rs.length*z)∧cap*z≤vs.size∧flat=vs.toList.take (rs.length*z)):=by
 obtain ⟨z',rs',wr',base,cap,hl',_,rfl,hv⟩:=hv
 rw [hl] at hl'
 simp only [Option.some.injEq,Blk.rows.injEq] at hl'
 obtain ⟨rfl,rfl,rfl⟩:=hl'
 obtain ⟨hc,_,hb⟩:=hv hn.symm
 rcases hb with rfl | ⟨b,vs,T,rfl,hm,hw,hcz⟩
 ·have h0:rs=[]:=List.length_eq_zero_iff.1 (by omega)
  subst h0
  have hn0:n=0:=by simpa using hn.symm
  subst hn0
  refine ⟨base,0,[],rfl,Nat.le_refl _,by simp,fun i row hrow=>by simp at hrow,fun w1 _=>?_,.inl ⟨rfl,rfl⟩⟩
  cases base with
  | none=>rfl
  | some ad =>
   simp only [Builtin.firstCells,List.length_nil,Nat.zero_mul]
   exact run_loadCells_list (P:=P) w1 ad [] fun j v hj=>by simp at hj
 ·have hlen:rs.length*z≤vs.size:=Nat.le_trans (Nat.mul_le_mul_right z (by omega)) hcz
  obtain ⟨fz,hw⟩:=hw
  have hin:(fz=(0,0)∨(wr=false∧fz.2≤rs.length*z))∧RowsN μ h w z rs (vs.toList.take (rs.length*z)).toArray:=by
   rcases hr.blk l _ hl with ⟨_,h0⟩ | ⟨b',vs',T',hm',⟨fz',hw',hfz⟩,_,hin⟩
   ·rw [hm] at h0;simp at h0
   ·have e:b'=b:=by rw [hm] at hm';simpa using hm'.symm
    subst e
    rw [hw] at hw'
    simp only [Option.some.injEq,Obj.cells.injEq] at hw'
    obtain ⟨rfl,rfl,rfl⟩:=hw'
    refine ⟨hfz,?_⟩
    intro i row hrow
    obtain ⟨h1,h2,h3⟩:=hin i row hrow
    refine ⟨h1,h2,fun c a ha=>?_⟩
    obtain ⟨u,h4,h5⟩:=h3 c a ha
    refine ⟨u,?_,h5⟩
    have hi:i < rs.length:=(List.getElem?_eq_some_iff.1 hrow).1
    have hcl:c < z:=by rw [←h1];exact (List.getElem?_eq_some_iff.1 ha).1
    have:i*z+z≤rs.length*z:=by rw [←Nat.succ_mul];exact Nat.mul_le_mul_right z hi
    simp only [List.getElem?_toArray]
    rw [List.getElem?_take,if_pos (by omega)]
    simpa using h4
  obtain ⟨hfz,hin⟩:=hin
  refine ⟨_,cap,vs.toList.take (rs.length*z),by rw [hn],by omega,by simp;omega,hin,?_,.inr ⟨b,vs,T,rfl,hm,⟨fz,hw,hfz⟩,hcz,rfl⟩⟩
  refine firstCells_run (by simp;omega) fun j v hj=>?_
  rw [List.getElem?_take] at hj
  split at hj
  ·simp only [World.cell?,hw,Nat.zero_add]
   simpa using hj
  ·simp at hj
def drewW (w:World):World:={ w with drawn:=w.drawn+1 }
theorem drew_rel (hr:Rel μ h w):Rel μ h (drewW w):=hr.heap_eq rfl rfl rfl rfl
theorem drew_ext:Ext μ h w μ h (drewW w):=Ext.heap_eq rfl rfl rfl rfl
def SrcTy (P:Program) (u:TypeId):Prop:=(∃ e,P.underlying u=some (.slice e))∨P.underlying u=some .string
theorem append_grow {at_:Array TypeId} {t u e ty:TypeId} {i:TypeInfo} {y src:Value} {base:Option Addr} {n k cap:Nat} {old new:List Value}
  (h0:at_[0]? = some t) (h1:at_[1]? = some u) (hu:P.underlying t=some (.slice e)) (hu':SrcTy P u) (hi:P.info? e=some i) (hy:i.zero=some y)
  (hlen:∀ w:World,(Builtin.lenOf src).run P w=.ok k w) (hcap:cap < n+k) (hroom:(n+k)*(i.bytes+1)≤roomMax) (hold:(Builtin.firstCells i.size n (.slice base n cap)).run P (drewW w)=.ok old.toArray (drewW w)) (hnew:(Builtin.firstCells i.size k src).run P (drewW w)=.ok new.toArray (drewW w)) :
  ∃ c,n+k≤c∧(Builtin.append_ at_ ty #[.slice base n cap,src]).run P w =
   .ok (.slice (some ⟨w.heap.size,0,none⟩) (n+k) c) ((drewW w).alloc (.cells (old.toArray++new.toArray++Builtin.zeroCells y.cells (c - (n+k))) e)):=by
 have hb:¬(Builtin.nextslicecap (n+k) cap*i.bytes > 2 ^ 48):=by
  have h2:=nextcap_le hcap
  have h3:Builtin.nextslicecap (n+k) cap*i.bytes≤2*(n+k)*(i.bytes+1):=Nat.mul_le_mul h2 (by omega)
  have h4:2*(n+k)*(i.bytes+1)=2*((n+k)*(i.bytes+1)):=by rw [Nat.mul_assoc]
  unfold roomMax at hroom
  omega
 have hb2:¬(((n+k:Nat):Int) > IntKind.i64.max∧(False∨i.bytes=0)):=by
  have h5:n+k≤(n+k)*(i.bytes+1):=Nat.le_mul_of_pos_right _ (by omega)
  have:IntKind.i64.max=9223372036854775807:=by decide
  rw [this]
  unfold roomMax at hroom
  omega
 obtain ⟨c,hc,hdraw⟩:∃ c,n+k≤c∧(choose (.appendCap (n+k) cap e)).run P w=.ok c (drewW w):=by
  refine ⟨_,?_,by simp only [run_choose,Question.forced,Bool.false_eq_true,if_false];rfl⟩
  simp only [Question.cut]
  omega
 refine ⟨c,hc,?_⟩
 have hzv:∀ w:World,(zeroValue e).run P w=.ok y w:=fun w=>by simp [zeroValue,typeInfo,hi,hy]
 have hso:∀ w:World,(sizeOf e).run P w=.ok i.size w:=fun w=>by simp [sizeOf,typeInfo,hi]
 have hti:∀ w:World,(typeInfo e).run P w=.ok i w:=fun w=>by simp [typeInfo,hi]
 rcases hu' with ⟨e',hu'⟩ | hu'
 ·simp only [Builtin.append_,h0,h1,Sem.run_bind,run_underlying hu,run_underlying hu',Result.andThen_ok,Sem.run_pure,List.getElem?_toArray,List.getElem?_cons_zero,List.getElem?_cons_succ,hso,Bool.false_eq_true,if_false,hlen,Sem.run_ite,if_neg (Nat.not_le.2 hcap),hti,
   if_neg hb2,if_neg hb,hdraw,run_askRoom,hold,Bool.not_false,if_true,hnew,hzv,newRow,run_newObj]
  rfl
 ·simp only [Builtin.append_,h0,h1,Sem.run_bind,run_underlying hu,run_underlying hu',Result.andThen_ok,Sem.run_pure,List.getElem?_toArray,List.getElem?_cons_zero,List.getElem?_cons_succ,hso,Bool.false_eq_true,if_false,hlen,Sem.run_ite,if_neg (Nat.not_le.2 hcap),hti,
   if_neg hb2,if_neg hb,hdraw,run_askRoom,hold,Bool.not_false,if_true,hnew,hzv,newRow,run_newObj]
  rfl
theorem append_fits_nil {at_:Array TypeId} {t u e ty:TypeId} {i:TypeInfo} {src:Value} {base:Option Addr}
  (h0:at_[0]? = some t) (h1:at_[1]? = some u) (hu:P.underlying t=some (.slice e)) (hu':SrcTy P u) (hi:P.info? e=some i)
  (hlen:∀ w:World,(Builtin.lenOf src).run P w=.ok 0 w) (hnew:(Builtin.firstCells i.size 0 src).run P w=.ok #[] w) :
  (Builtin.append_ at_ ty #[.slice base 0 0,src]).run P w=.ok (.slice base 0 0) w:=by
 have hso:∀ w:World,(sizeOf e).run P w=.ok i.size w:=fun w=>by simp [sizeOf,typeInfo,hi]
 have hst:∀ a:Addr,(storeCells a [] 0).run P w=.ok () w:=fun a=>rfl
 cases base<;>rcases hu' with ⟨e',hu'⟩ | hu'
 all_goals simp only [Builtin.append_,h0,h1,Sem.run_bind,run_underlying hu,run_underlying hu',Result.andThen_ok,Sem.run_pure,List.getElem?_toArray,List.getElem?_cons_zero,List.getElem?_cons_succ,hso,Bool.false_eq_true,if_false,hlen,Sem.run_ite,Nat.add_zero,Nat.le_refl,if_true,Bool.not_false,hnew,hst]
theorem append_fits {at_:Array TypeId} {t u e ty T:TypeId} {i:TypeInfo} {src:Value} {b n k cap:Nat} {new:List Value} {vs:Array Value} {fz:Nat×Nat}
  (h0:at_[0]? = some t) (h1:at_[1]? = some u) (hu:P.underlying t=some (.slice e)) (hu':SrcTy P u) (hi:P.info? e=some i)
  (hlen:∀ w:World,(Builtin.lenOf src).run P w=.ok k w) (hcap:n+k≤cap) (hb:w.heap[b]? = some (.cells vs T fz)) (hfz:fz.2≤n*i.size) (hsz:cap*i.size≤vs.size) (hl:new.length=k*i.size) (h1c:∀ v∈new,v.oneCell'=true)
  (hnew:(Builtin.firstCells i.size k src).run P w=.ok new.toArray w) :
  (Builtin.append_ at_ ty #[.slice (some ⟨b,0,none⟩) n cap,src]).run P w =
   .ok (.slice (some ⟨b,0,none⟩) (n+k) cap) (w.setRow b (vs.toList.take (n*i.size)++new++vs.toList.drop (n*i.size+new.length)).toArray):=by
 have hso:∀ w:World,(sizeOf e).run P w=.ok i.size w:=fun w=>by simp [sizeOf,typeInfo,hi]
 have hle:n*i.size+new.length≤vs.size:=by
  rw [hl,←Nat.add_mul]
  exact Nat.le_trans (Nat.mul_le_mul_right _ hcap) hsz
 have hst:=run_storeCells_atF P b (n*i.size) T fz new 0 vs w hb (by simpa using hfz) (by simpa using hle) h1c
 simp only [Nat.add_zero] at hst
 have hadd:(⟨b,0,none⟩:Addr).add (n*i.size)=⟨b,n*i.size,none⟩:=by rw [add_none,Nat.zero_add]
 rcases hu' with ⟨e',hu'⟩ | hu'
 ·simp only [Builtin.append_,h0,h1,Sem.run_bind,run_underlying hu,run_underlying hu',Result.andThen_ok,Sem.run_pure,List.getElem?_toArray,List.getElem?_cons_zero,List.getElem?_cons_succ,hso,Bool.false_eq_true,if_false,hlen,Sem.run_ite,hcap,if_true,Bool.not_false,hnew,hadd,hst]
 ·simp only [Builtin.append_,h0,h1,Sem.run_bind,run_underlying hu,run_underlying hu',Result.andThen_ok,Sem.run_pure,List.getElem?_toArray,List.getElem?_cons_zero,List.getElem?_cons_succ,hso,Bool.false_eq_true,if_false,hlen,Sem.run_ite,hcap,if_true,Bool.not_false,hnew,hadd,hst]
theorem append_zero {at_:Array TypeId} {t u e ty:TypeId} {i:TypeInfo} {src:Value} {base:Option Addr} {n cap:Nat}
  (h0:at_[0]? = some t) (h1:at_[1]? = some u) (hu:P.underlying t=some (.slice e)) (hu':SrcTy P u) (hi:P.info? e=some i) (hc:n≤cap)
  (hlen:∀ w:World,(Builtin.lenOf src).run P w=.ok 0 w) (hnew:(Builtin.firstCells i.size 0 src).run P w=.ok #[] w) :
  (Builtin.append_ at_ ty #[.slice base n cap,src]).run P w=.ok (.slice base n cap) w:=by
 have hso:∀ w:World,(sizeOf e).run P w=.ok i.size w:=fun w=>by simp [sizeOf,typeInfo,hi]
 have hst:∀ a:Addr,(storeCells a []).run P w=.ok () w:=fun a=>by simp [storeCells]
 rcases hu' with ⟨e',hu'⟩ | hu'<;>cases base with
 | none=>simp only [Builtin.append_,h0,h1,Sem.run_bind,run_underlying hu,run_underlying hu',Result.andThen_ok,Sem.run_pure,List.getElem?_toArray,List.getElem?_cons_zero,List.getElem?_cons_succ,hso,Bool.false_eq_true,if_false,hlen,Sem.run_ite,Nat.add_zero,hc,if_true,Bool.not_false,hnew]
 | some a=>simp only [Builtin.append_,h0,h1,Sem.run_bind,run_underlying hu,run_underlying hu',Result.andThen_ok,Sem.run_pure,List.getElem?_toArray,List.getElem?_cons_zero,List.getElem?_cons_succ,hso,Bool.false_eq_true,if_false,hlen,Sem.run_ite,Nat.add_zero,hc,if_true,Bool.not_false,hnew,hst]
theorem list_set_same {l:Nat} {k:Blk} (hl:h[l]? = some k):h.set l k=h:=by
 apply List.ext_getElem?
 intro i
 by_cases hi:l=i
 ·subst hi
  rw [List.getElem?_set_self (List.getElem?_eq_some_iff.1 hl).1];exact hl.symm
 ·rw [List.getElem?_set_ne hi]
theorem Ext.move {l z:Nat} {rs rs':List (List AV)} {wr:Bool} (hr:Rel μ h w) (hl:h[l]? = some (.rows z rs wr)) (hlt:rs.length < rs'.length) (y:Obj) :
  Ext μ h w (μ.set l (some w.heap.size)) (h.set l (.rows z rs' wr)) (w.alloc y) where
 out:=rfl
 still:=rfl
 os:=rfl
 tape:=rfl
 output:=rfl
 size:=by show _≤(w.alloc y).heap.size;simp
 keep:=fun b o v hc hm=>by
  have hb:=cell_lt hc
  refine ⟨by simp only [World.cell?] at hc ⊢;rw [alloc_old y hb];exact hc,?_⟩
  rintro (ho | ⟨l',k',hl',hm',ho⟩)
  ·exact hm (.inl ho)
  ·by_cases hll:l'=l
   ·subst hll
    rw [set_same] at hm'
    simp only [Option.some.injEq] at hm'
    omega
   ·rw [set_other _ hll] at hm'
    rw [List.getElem?_set_ne (fun e=>hll e.symm)] at hl'
    exact hm (.inr ⟨l',k',hl',hm',ho⟩)
 outside:=fun b hb ho=>by
  refine ⟨alloc_old y hb,fun l' hl'=>?_⟩
  by_cases hll:l'=l
  ·subst hll
   rw [set_same]
   simp
   omega
  ·rw [set_other _ hll]
   exact ho l' (by simpa using hl')
 len:=by simp
 maps:=fun l' es hl'=>by
  have hll:l≠l':=fun e=>by subst e;rw [hl] at hl';simp at hl'
  exact ⟨⟨es,by rw [List.getElem?_set_ne hll];exact hl'⟩,set_other _ (fun e=>hll e.symm)⟩
 cells:=fun l' cs hl'=>by
  have hll:l≠l':=fun e=>by subst e;rw [hl] at hl';simp at hl'
  exact ⟨⟨cs,by rw [List.getElem?_set_ne hll];exact hl'⟩,set_other _ (fun e=>hll e.symm)⟩
 rows:=fun l' z' rs2 wr2 hl'=>by
  by_cases hll:l=l'
  ·subst hll
   rw [hl] at hl'
   simp only [Option.some.injEq,Blk.rows.injEq] at hl'
   obtain ⟨rfl,rfl,rfl⟩:=hl'
   exact ⟨rs',wr,by rw [List.getElem?_set_self (List.getElem?_eq_some_iff.1 hl).1],by omega,fun e=>by omega⟩
  ·exact ⟨rs2,wr2,by rw [List.getElem?_set_ne hll];exact hl',Nat.le_refl _,fun _=>set_other _ (fun e=>hll e.symm)⟩
 sizes:=fun b vs T hb=>⟨vs,hb.eq (alloc_old y hb.lt),rfl⟩
theorem Rel.move {l z:Nat} {rs rs':List (List AV)} {wr:Bool} (hr:Rel μ h w) (hl:h[l]? = some (.rows z rs wr)) (hlt:rs.length < rs'.length) (y:Obj)
  (hk:BlkRel (μ.set l (some w.heap.size)) (h.set l (.rows z rs' wr)) (w.alloc y) l (.rows z rs' wr)):Rel (μ.set l (some w.heap.size)) (h.set l (.rows z rs' wr)) (w.alloc y) where
 inj:=fun l1 l2 b hl1 hl2 hm1 hm2=>by
  simp only [List.length_set] at hl1 hl2
  by_cases h1:l1=l<;>by_cases h2:l2=l
  ·omega
  ·subst h1
   rw [set_same] at hm1
   rw [set_other _ h2] at hm2
   simp only [Option.some.injEq] at hm1
   have:=hr.mapped hl2 hm2
   omega
  ·subst h2
   rw [set_same] at hm2
   rw [set_other _ h1] at hm1
   simp only [Option.some.injEq] at hm2
   have:=hr.mapped hl1 hm1
   omega
  ·rw [set_other _ h1] at hm1
   rw [set_other _ h2] at hm2
   exact hr.inj l1 l2 b hl1 hl2 hm1 hm2
 blk:=fun l' k' hl'=>by
  have e:=Ext.move hr hl hlt y
  by_cases hll:l=l'
  ·subst hll
   rw [List.getElem?_set_self (List.getElem?_eq_some_iff.1 hl).1] at hl'
   simp only [Option.some.injEq] at hl'
   subst hl'
   exact hk
  ·rw [List.getElem?_set_ne hll] at hl'
   have:=hr.blk l' k' hl'
   have hne:l'≠l:=fun e=>hll e.symm
   cases k' with
   | cells cs =>
    obtain ⟨b,vs,T,h3,h4,h5,h6⟩:=this
    exact ⟨b,vs,T,by rw [set_other _ hne];exact h3,by rw [alloc_old y (heap_lt h4)];exact h4,h5,RepL.ext e cs vs h6⟩
   | rows z rs wr =>
    rcases this with ⟨h3,h4⟩ | ⟨b,vs,T,h3,h4,h5,h6⟩
    ·exact .inl ⟨h3,by rw [set_other _ hne];exact h4⟩
    ·exact .inr ⟨b,vs,T,by rw [set_other _ hne];exact h3,h4.eq (alloc_old y h4.lt),h5,h6.ext e⟩
   | hole =>
    show (μ.set l (some w.heap.size)) l'=none
    rw [set_other _ hne];exact this
   | map es =>
    obtain ⟨b,ms,c,h3,h4,h5⟩:=this
    exact ⟨b,ms,c,by rw [set_other _ hne];exact h3,by rw [alloc_old y (heap_lt h4)];exact h4,h5.keep e.keep⟩
 apart:=fun l' b o hl' hm ho=>by
  by_cases h1:l'=l
  ·subst h1
   rw [set_same] at hm
   simp only [Option.some.injEq] at hm
   have:=hr.old b o ho
   omega
  ·rw [set_other _ h1] at hm
   exact hr.apart l' b o (by simpa using hl') hm ho
 old:=fun b o ho=>Nat.lt_of_lt_of_le (hr.old b o ho) (Ext.move hr hl hlt y).size
 still:=(hr.carry (Ext.move hr hl hlt y)).1
 base:=(hr.carry (Ext.move hr hl hlt y)).2
theorem zeroCells_size (zs:Array Value) (n:Nat):(Builtin.zeroCells zs n).size=n*zs.size:=by simp [Builtin.zeroCells]
def Made (P:Program) (μ:Mp Bs) (h:Heap) (w:World) (s:Sem Value) (x:AV) (h':Heap):Prop :=
 ∃ u μ' w',s.run P w=.ok u w'∧Rel μ' h' w'∧Ext μ h w μ' h' w'∧Rep μ' h' w' x u
theorem made_new {s:Sem Value} {wr:Bool} {z c:Nat} {rs:List (List AV)} {flat:List Value} {rest:Array Value} {T:TypeId} (hr:Rel μ h w) (hpos:0 < rs.length) (hl:flat.length=rs.length*z) (hin:RowsN μ h (drewW w) z rs flat.toArray) (hc:rs.length≤c) (hrest:rest.size=(c - rs.length)*z)
  (hrun:s.run P w=.ok (.slice (some ⟨w.heap.size,0,none⟩) rs.length c) ((drewW w).alloc (.cells (flat.toArray++rest) T))):Made P μ h w s (.own h.length rs.length) (h++[.rows z rs wr]):=by
 have hr1:=drew_rel hr
 have e1:=Ext.push hr1 (.rows z rs wr) (some (.cells (flat.toArray++rest) T))
 have hsz:(flat.toArray++rest).size=c*z:=by
  simp only [Array.size_append,List.size_toArray,hl,hrest]
  rw [←Nat.add_mul]
  congr 1
  omega
 have hheap:((drewW w).alloc (.cells (flat.toArray++rest) T)).heap[w.heap.size]? = some (.cells (flat.toArray++rest) T (0,0)):=alloc_new (w:=drewW w) _
 refine ⟨_,_,_,hrun,Rel.push hr1 (.rows z rs wr) (some (.cells (flat.toArray++rest) T)) ?_,drew_ext.trans e1,?_⟩
 ·refine .inr ⟨w.heap.size,flat.toArray++rest,T,set_same _ _,.free hheap,by rw [hsz];exact Nat.mul_le_mul_right z hc,?_⟩
  have h2:=RowsN.append (μ:=μ) (h:=h) (w:=drewW w) (fl:=[]) (fy:=flat) (rest:=rest.toList) (rs:=[]) (ys:=rs) (z:=z) (by simp) (fun i row hrow=>by simp at hrow) hin
  have h3:([]++flat++rest.toList).toArray=flat.toArray++rest:=by apply Array.ext';simp
  rw [h3] at h2
  exact RowsN.ext e1 h2
 ·exact ⟨z,rs,wr,_,c,by simp,Nat.le_refl _,rfl,fun _=>⟨hc,fun h0=>by omega,.inr ⟨w.heap.size,flat.toArray++rest,T,rfl,set_same _ _,⟨_,hheap⟩,by rw [hsz];exact Nat.le_refl _⟩⟩⟩
theorem made_moved {s:Sem Value} {l z c:Nat} {rs ys:List (List AV)} {wr:Bool} {fl fy:List Value} {rest:Array Value} {T:TypeId} (hr:Rel μ h w) (hlk:h[l]? = some (.rows z rs wr)) (hpos:0 < ys.length) (hl:fl.length=rs.length*z) (hin:RowsN μ h (drewW w) z rs fl.toArray) (hl':fy.length=ys.length*z) (hin':RowsN μ h (drewW w) z ys fy.toArray)
  (hc:rs.length+ys.length≤c) (hrest:rest.size=(c - (rs.length+ys.length))*z)
  (hrun:s.run P w=.ok (.slice (some ⟨w.heap.size,0,none⟩) (rs.length+ys.length) c) ((drewW w).alloc (.cells (fl.toArray++fy.toArray++rest) T))):Made P μ h w s (.own l (rs.length+ys.length)) (h.set l (.rows z (rs++ys) wr)):=by
 have hr1:=drew_rel hr
 have hlt:rs.length < (rs++ys).length:=by simp;omega
 have e1:=Ext.move hr1 hlk hlt (.cells (fl.toArray++fy.toArray++rest) T)
 have hsz:(fl.toArray++fy.toArray++rest).size=c*z:=by
  simp only [Array.size_append,List.size_toArray,hl,hl',hrest]
  rw [←Nat.add_mul,←Nat.add_mul]
  congr 1
  omega
 have hheap:((drewW w).alloc (.cells (fl.toArray++fy.toArray++rest) T)).heap[w.heap.size]? = some (.cells (fl.toArray++fy.toArray++rest) T (0,0)):=alloc_new (w:=drewW w) _
 have hlen:(rs++ys).length=rs.length+ys.length:=by simp
 refine ⟨_,_,_,hrun,Rel.move hr1 hlk hlt _ ?_,drew_ext.trans e1,?_⟩
 ·refine .inr ⟨w.heap.size,_,T,set_same _ _,.free hheap,by rw [hsz,hlen];exact Nat.mul_le_mul_right z hc,?_⟩
  have h2:=RowsN.append (μ:=μ) (h:=h) (w:=drewW w) (fl:=fl) (fy:=fy) (rest:=rest.toList) (rs:=rs) (ys:=ys) (z:=z) hl hin hin'
  have h3:(fl++fy++rest.toList).toArray=fl.toArray++fy.toArray++rest:=by apply Array.ext';simp
  rw [h3] at h2
  exact RowsN.ext e1 h2
 ·exact ⟨z,rs++ys,wr,_,c,by rw [List.getElem?_set_self (List.getElem?_eq_some_iff.1 hlk).1],by omega,rfl,fun _=>⟨hc,fun h0=>by omega,.inr ⟨w.heap.size,_,T,rfl,set_same _ _,⟨_,hheap⟩,by rw [hsz];exact Nat.le_refl _⟩⟩⟩
theorem made_movedT {s:Sem Value} {l z c:Nat} {rs ys:List (List AV)} {wr:Bool} {fl fy:List Value} {rest:Array Value} {T:TypeId} (hr:Rel μ h w) (hlk:h[l]? = some (.rows z rs wr)) (hpos:0 < ys.length) (hl:fl.length=rs.length*z) (hin:RowsN μ h (drewW w) z rs fl.toArray) (hl':fy.length=ys.length*z) (hin':RowsN μ h (drewW w) z ys fy.toArray)
  (hc:rs.length+ys.length≤c) (hrest:rest.size=(c - (rs.length+ys.length))*z)
  (hrun:s.run P w=.ok (.slice (some ⟨w.heap.size,0,none⟩) (rs.length+ys.length) c) ((drewW w).alloc (.cells (fl.toArray++fy.toArray++rest) T))):Made P μ h w s (.town T l (rs.length+ys.length)) (h.set l (.rows z (rs++ys) wr)):=by
 have hr1:=drew_rel hr
 have hlt:rs.length < (rs++ys).length:=by simp;omega
 have e1:=Ext.move hr1 hlk hlt (.cells (fl.toArray++fy.toArray++rest) T)
 have hsz:(fl.toArray++fy.toArray++rest).size=c*z:=by
  simp only [Array.size_append,List.size_toArray,hl,hl',hrest]
  rw [←Nat.add_mul,←Nat.add_mul]
  congr 1
  omega
 have hheap:((drewW w).alloc (.cells (fl.toArray++fy.toArray++rest) T)).heap[w.heap.size]? = some (.cells (fl.toArray++fy.toArray++rest) T (0,0)):=alloc_new (w:=drewW w) _
 have hlen:(rs++ys).length=rs.length+ys.length:=by simp
 refine ⟨_,_,_,hrun,Rel.move hr1 hlk hlt _ ?_,drew_ext.trans e1,?_⟩
 ·refine .inr ⟨w.heap.size,_,T,set_same _ _,.free hheap,by rw [hsz,hlen];exact Nat.mul_le_mul_right z hc,?_⟩
  have h2:=RowsN.append (μ:=μ) (h:=h) (w:=drewW w) (fl:=fl) (fy:=fy) (rest:=rest.toList) (rs:=rs) (ys:=ys) (z:=z) hl hin hin'
  have h3:(fl++fy++rest.toList).toArray=fl.toArray++fy.toArray++rest:=by apply Array.ext';simp
  rw [h3] at h2
  exact RowsN.ext e1 h2
 ·exact ⟨z,rs++ys,wr,_,c,by rw [List.getElem?_set_self (List.getElem?_eq_some_iff.1 hlk).1],by omega,rfl,fun _=>⟨hc,fun h0=>by omega,.inr ⟨w.heap.size,_,rfl,set_same _ _,⟨_,hheap⟩,by rw [hsz];exact Nat.le_refl _⟩⟩⟩
theorem get_splice {α:Type} (l us:List α) (p i:Nat) (hp:p+us.length≤l.length):(l.take p++us++l.drop (p+us.length))[i]? = if i < p then l[i]? else if i < p+us.length then us[i - p]? else l[i]? := by
 have hlen:(l.take p).length=p:=by simp;omega
 rw [List.append_assoc]
 by_cases h1:i < p
 ·rw [if_pos h1,List.getElem?_append_left (by omega),List.getElem?_take,if_pos h1]
 ·rw [if_neg h1,List.getElem?_append_right (by omega),hlen]
  by_cases h2:i < p+us.length
  ·rw [if_pos h2,List.getElem?_append_left (by omega)]
  ·rw [if_neg h2,List.getElem?_append_right (by omega),List.getElem?_drop]
   congr 1
   omega
theorem RowsN.splice {z m:Nat} {rs ys:List (List AV)} {fy:List Value} {vs:Array Value} (hl:fy.length=ys.length*z) (hr:RowsN μ h w z rs vs) (hy:RowsN μ h w z ys fy.toArray) (hm:m+ys.length≤rs.length) (hsz:rs.length*z≤vs.size) :
  RowsN μ h w z (rs.take m++ys++rs.drop (m+ys.length)) (vs.toList.take (m*z)++fy++vs.toList.drop (m*z+fy.length)).toArray:=by
 have hle:m*z+fy.length≤vs.toList.length:=by
  rw [hl,←Nat.add_mul]
  exact Nat.le_trans (Nat.mul_le_mul_right _ hm) (by simpa using hsz)
 intro i row hrow
 rw [get_splice rs ys m i hm] at hrow
 simp only [List.getElem?_toArray]
 have old:rs[i]? = some row→(i < m∨m+ys.length≤i)→row.length=z∧singles row=true∧∀ c a,row[c]? = some a→∃ v,(vs.toList.take (m*z)++fy++vs.toList.drop (m*z+fy.length))[i*z+c]? = some v∧Rep μ h w a v:=by
  intro hrow hi
  obtain ⟨h1,h2,h3⟩:=hr i row hrow
  refine ⟨h1,h2,fun c a ha=>?_⟩
  obtain ⟨v,h4,h5⟩:=h3 c a ha
  refine ⟨v,?_,h5⟩
  have hc:c < z:=by rw [←h1];exact (List.getElem?_eq_some_iff.1 ha).1
  rw [get_splice _ _ _ _ hle]
  have h4':vs.toList[i*z+c]? = some v:=by simpa using h4
  rcases hi with hi | hi
  ·have:i*z+z≤m*z:=by rw [←Nat.succ_mul];exact Nat.mul_le_mul_right z hi
   rw [if_pos (by omega)]
   exact h4'
  ·have:(m+ys.length)*z≤i*z:=Nat.mul_le_mul_right z hi
   rw [Nat.add_mul] at this
   rw [if_neg (by omega),if_neg (by omega)]
   exact h4'
 by_cases h1:i < m
 ·rw [if_pos h1] at hrow
  exact old hrow (.inl h1)
 ·rw [if_neg h1] at hrow
  by_cases h2:i < m+ys.length
  ·rw [if_pos h2] at hrow
   obtain ⟨q1,q2,q3⟩:=hy _ row hrow
   refine ⟨q1,q2,fun c a ha=>?_⟩
   obtain ⟨v,q4,q5⟩:=q3 c a ha
   refine ⟨v,?_,q5⟩
   have hc:c < z:=by rw [←q1];exact (List.getElem?_eq_some_iff.1 ha).1
   have e1:i*z=m*z+(i - m)*z:=by rw [←Nat.add_mul];congr 1;omega
   have q4':fy[(i - m)*z+c]? = some v:=by simpa using q4
   have q6:=(List.getElem?_eq_some_iff.1 q4').1
   rw [get_splice _ _ _ _ hle,if_neg (by omega),if_pos (by omega),←q4']
   congr 1
   omega
  ·rw [if_neg h2] at hrow
   exact old hrow (.inr (by omega))
theorem rows_splice {l z m b:Nat} {rs ys:List (List AV)} {fy:List Value} {vs:Array Value} {T:TypeId} (hr:Rel μ h w) (hlk:h[l]? = some (.rows z rs true)) (hmb:μ l=some b) (hw:w.heap[b]? = some (.cells vs T (0,0))) (hsz:rs.length*z≤vs.size) (hin:RowsN μ h w z rs vs)
  (hl:fy.length=ys.length*z) (hy:RowsN μ h w z ys fy.toArray) (hm:m+ys.length≤rs.length) :
  (vs.toList.take (m*z)++fy++vs.toList.drop (m*z+fy.length)).toArray.size=vs.size ∧
  Rel μ (h.set l (.rows z (rs.take m++ys++rs.drop (m+ys.length)) true)) (w.setRow b (vs.toList.take (m*z)++fy++vs.toList.drop (m*z+fy.length)).toArray) ∧
  Ext μ h w μ (h.set l (.rows z (rs.take m++ys++rs.drop (m+ys.length)) true)) (w.setRow b (vs.toList.take (m*z)++fy++vs.toList.drop (m*z+fy.length)).toArray):=by
 have hle:m*z+fy.length≤vs.size:=by
  rw [hl,←Nat.add_mul]
  exact Nat.le_trans (Nat.mul_le_mul_right _ hm) hsz
 have hsize:(vs.toList.take (m*z)++fy++vs.toList.drop (m*z+fy.length)).toArray.size=vs.size:=by
  simp;omega
 have hlen:(rs.take m++ys++rs.drop (m+ys.length)).length=rs.length:=by simp;omega
 have ex:Ext μ h w μ (h.set l (.rows z (rs.take m++ys++rs.drop (m+ys.length)) true)) (w.setRow b (vs.toList.take (m*z)++fy++vs.toList.drop (m*z+fy.length)).toArray) :=
  Ext.update hr hlk hmb hw (setRow_heap w b _ _ T _ hw) (fun b2 hb2=>setRow_other w b b2 _ hb2) rfl rfl rfl (by simp)
   hsize (fun _ _ _ hno=>absurd (.inl rfl) hno) (fun _ _=>.inl rfl) ⟨rfl,by rw [hlen];exact Nat.le_refl _⟩
 refine ⟨hsize,Rel.update hr hlk hmb (fun b2 hb2=>setRow_other w b b2 _ hb2) ex (.inr ⟨b,_,T,hmb,.free (setRow_heap w b _ _ T _ hw),?_,?_⟩),ex⟩
 ·rw [hsize,hlen]
  exact hsz
 ·exact (RowsN.splice hl hin hy hm hsz).ext ex
theorem view_rows {l n a m z:Nat} {rs:List (List AV)} {wr:Bool} {v:Value} (hr:Rel μ h w) (hl:h[l]? = some (.rows z rs wr)) (hn:rs.length=n) (ha:a < n) (hv:VwRep μ h w l n a m v) :
  ∃ cap b vs T,v=.slice (some ⟨b,a*z,none⟩) m cap∧a+m≤n∧n≤a+cap∧μ l=some b∧RowAt w b vs T wr (rs.length*z)∧rs.length*z≤vs.size∧(a+cap)*z≤vs.size∧RowsN μ h w z rs vs:=by
 obtain ⟨z2,rs2,wr2,base,cap,h1,h2,rfl,h4⟩:=hv
 rw [hl] at h1
 simp only [Option.some.injEq,Blk.rows.injEq] at h1
 obtain ⟨rfl,rfl,rfl⟩:=h1
 obtain ⟨h5,h6,h7⟩:=h4 hn.symm
 obtain ⟨b,vs,T,rfl,hm,⟨fz,hw⟩,hz⟩:=h7 ha
 rcases hr.blk l _ hl with ⟨_,h0⟩ | ⟨b',vs',T',hm',⟨fz',hw',hfz⟩,hlen,hin⟩
 ·rw [hm] at h0;simp at h0
 ·have e:b'=b:=by rw [hm] at hm';simpa using hm'.symm
  subst e
  rw [hw] at hw'
  simp only [Option.some.injEq,Obj.cells.injEq] at hw'
  obtain ⟨rfl,rfl,rfl⟩:=hw'
  exact ⟨cap,b',vs,T,rfl,h5,h6,hm,⟨fz,hw,hfz⟩,hlen,hz,hin⟩
theorem view_src {l n a m z' z:Nat} {rs:List (List AV)} {wr:Bool} {v:Value} (hr:Rel μ h w) (hl:h[l]? = some (.rows z' rs wr)) (hn:rs.length=n) (ham:a+m≤n) (hz:allLen z (cut rs a (a+m))=true) (hv:VwRep μ h w l n a m v):Src P μ h w z (cut rs a (a+m)) v:=by
 have hlen:(cut rs a (a+m)).length=m:=by rw [cut_len _ _ _ (by omega)];omega
 rcases Nat.eq_zero_or_pos m with h0 | h0
 ·have hc:cut rs a (a+m)=[]:=List.length_eq_zero_iff.1 (by rw [hlen];exact h0)
  obtain ⟨z2,rs2,wr2,base,cap,h1,h2,rfl,h4⟩:=hv
  rw [hc]
  subst h0
  exact src_of (ys:=[]) rfl (.inl rfl)
 ·obtain ⟨cap,b,vs,T,rfl,h5,h6,hm,⟨fz,hw,hfz⟩,hlv,hcz,hin⟩:=view_rows hr hl hn (by omega) hv
  have hzz:z'=z:=by
   have hlt:a < rs.length:=by omega
   have h7:=(hin a _ (List.getElem?_eq_getElem hlt)).1
   have h8:=allLen_spec hz 0 rs[a] (by rw [cut_get,if_pos (by omega),Nat.add_zero];exact List.getElem?_eq_getElem hlt)
   omega
  subst hzz
  have hfl:((vs.toList.drop (a*z')).take (m*z')).length=m*z':=by
   have:(a+m)*z'≤vs.size:=Nat.le_trans (Nat.mul_le_mul_right _ (by omega)) hlv
   rw [Nat.add_mul] at this
   simp;omega
  refine ⟨_,cap,(vs.toList.drop (a*z')).take (m*z'),by rw [hlen],by rw [hlen];exact hfl,fun i row hrow=>?_,?_⟩
  ·rw [cut_get] at hrow
   split at hrow
   ·rename_i hi
    obtain ⟨q1,q2,q3⟩:=hin (a+i) row hrow
    refine ⟨q1,q2,fun c x hx=>?_⟩
    obtain ⟨u,q4,q5⟩:=q3 c x hx
    refine ⟨u,?_,q5⟩
    have hc:c < z':=by rw [←q1];exact (List.getElem?_eq_some_iff.1 hx).1
    have:i*z'+z'≤m*z':=by rw [←Nat.succ_mul];exact Nat.mul_le_mul_right z' (by omega)
    simp only [List.getElem?_toArray]
    rw [List.getElem?_take,if_pos (by omega),List.getElem?_drop,show a*z'+(i*z'+c)=(a+i)*z'+c by rw [Nat.add_mul];omega]
    simpa using q4
   ·simp at hrow
  ·rw [hlen]
   refine firstCells_run hfl fun j v hj=>?_
   rw [List.getElem?_take] at hj
   split at hj
   ·rw [List.getElem?_drop] at hj
    simp only [World.cell?,hw]
    simpa using hj
   ·simp at hj
theorem zero_rows {y:Value} {cs:List AV} {z j:Nat} (hcs:cellsOf (ofVal y)=some cs) (hcl:cs.length=z) (hzc:y.cells.size=z):RowsIn (Mut μ h) w z (List.replicate j cs) (Builtin.zeroCells y.cells j):=fun r row hrow=>by
 obtain ⟨hs,hp⟩:=cellsOf_pure (M:=Mut μ h) (w:=w) hcs (ofVal_rep y)
 rw [List.getElem?_replicate] at hrow
 split at hrow
 ·rename_i hr'
  simp only [Option.some.injEq] at hrow
  subst hrow
  refine ⟨hcl,hs,fun c a' ha=>?_⟩
  obtain ⟨v,h1,h2⟩:=hp.at c a' ha
  refine ⟨v,?_,h2⟩
  have hcz:c < z:=by rw [←hcl];exact (List.getElem?_eq_some_iff.1 ha).1
  have hlt:r*z+c < j*y.cells.size:=by
   have:r*z+z≤j*z:=by rw [←Nat.succ_mul];exact Nat.mul_le_mul_right _ hr'
   rw [hzc];omega
  have hmod:(r*z+c) % y.cells.size=c:=by
   rw [hzc,Nat.mul_comm,Nat.mul_add_mod]
   exact Nat.mod_eq_of_lt hcz
  have hyc:y.cells[c]? = some v:=by simpa using h1
  simp only [Builtin.zeroCells,Array.getElem?_map,Array.getElem?_range,hlt,if_true,Option.map_some,hmod]
  congr 1
  rw [getElem!_def,hyc]
 ·simp at hrow
theorem clear_sound {at_:Array TypeId} {t ty:TypeId} {z bb:Nat} {x y:AV} {zr:List AV} {v:Value} {h':Heap} (h0:at_[0]? = some t) (hes:es P t=some (z,bb)) (hez:elemZero P t=some y) (hzr:cellsOf y=some zr) (hr:Rel μ h w) (e:clearTo h z zr x=some h') (hx:Rep μ h w x v) :
  ∃ w',(Builtin.clear_ at_ ty #[v]).run P w=.ok (.tuple #[]) w'∧Rel μ h' w'∧Ext μ h w μ h' w':=by
 obtain ⟨el,i,y0,hu,hi,rfl,rfl,hz,hzc⟩:=es_zero hes
 unfold clearTo at e
 split at e
 ·rename_i l n a m
  split at e
  ·rename_i sz rs hl
   split at e
   ·rename_i hc
    obtain ⟨hn,rfl,ham,hzl⟩:=hc
    simp only [Option.some.injEq] at e
    subst e
    rcases Nat.eq_zero_or_pos m with hm0 | hm0
    ·subst hm0
     obtain ⟨z2,rs2,wr2,base,cap,h1,h2,rfl,h4⟩:=hx
     have hs:h.set l (.rows i.size (rs.take a++List.replicate 0 zr++rs.drop (a+0)) true)=h:=by
      simp only [List.replicate_zero,List.append_nil,Nat.add_zero,List.take_append_drop]
      exact list_set_same hl
     rw [hs]
     refine ⟨w,?_,hr,Ext.refl _ _ _⟩
     cases base<;>simp [Builtin.clear_,h0,run_underlying hu]
    ·obtain ⟨cap,b,vs,T,rfl,h5,h6,hm,⟨fz,hw,hfz⟩,hlv,hcz,hin⟩:=view_rows hr hl hn (by omega) hx
     have hfz0:fz=(0,0):=by
      rcases hfz with h | ⟨h,_⟩
      ·exact h
      ·simp at h
     subst hfz0
     have hy:y=ofVal y0:=by
      unfold elemZero at hez
      rw [hu] at hez
      simp only [zv,hi,hz,Option.map_some,Option.some.injEq] at hez
      exact hez.symm
     subst hy
     have hzi:RowsIn (Mut μ h) w i.size (List.replicate m zr) (Builtin.zeroCells y0.cells m):=zero_rows hzr hzl hzc
     have hfl:(Builtin.zeroCells y0.cells m).toList.length=(List.replicate m zr).length*i.size:=by rw [List.length_replicate,Array.length_toList,zeroCells_size,hzc]
     have hzn:RowsN μ h w i.size (List.replicate m zr) (Builtin.zeroCells y0.cells m).toList.toArray:=by rw [Array.toArray_toList];exact hzi.some
     obtain ⟨q0,q1,q2⟩:=rows_splice (m:=a) hr hl hm hw hlv hin hfl hzn (by rw [List.length_replicate];omega)
     rw [List.length_replicate] at q1 q2
     have hle:a*i.size+(Builtin.zeroCells y0.cells m).toList.length≤vs.size:=by
      rw [hfl,List.length_replicate,←Nat.add_mul]
      exact Nat.le_trans (Nat.mul_le_mul_right _ (by omega:a+m≤rs.length)) hlv
     have hst:=run_storeCells_atF P b (a*i.size) T (0,0) (Builtin.zeroCells y0.cells m).toList 0 vs w hw (Nat.zero_le _) (by simpa using hle) (rowsN_cells hfl hzn)
     simp only [Nat.add_zero] at hst
     have hzv:∀ w:World,(zeroValue el).run P w=.ok y0 w:=fun w=>by simp [zeroValue,typeInfo,hi,hz]
     obtain ⟨m,rfl⟩:∃ k,m=k+1:=⟨m - 1,by omega⟩
     refine ⟨_,?_,q1,q2⟩
     simp only [Builtin.clear_,h0,List.getElem?_toArray,List.getElem?_cons_zero,Sem.run_bind,run_underlying hu,Result.andThen_ok,hzv,hst,Sem.run_pure]
   ·simp at e
  ·simp at e
 ·simp at e
theorem rowsOf_src {z:Nat} {y:AV} {ys:List (List AV)} {v:Value} (hr:Rel μ h w) (e:rowsOf h y=some ys) (hz:allLen z ys=true) (hy:Rep μ h w y v):Src P μ h w z ys v:=by
 unfold rowsOf at e
 split at e
 ·simp only [Option.some.injEq] at e
  subst e
  obtain ⟨base,cap,rfl,_,hb⟩:=hy
  exact src_of hz hb
 ·simp only [Option.some.injEq] at e
  subst e
  obtain ⟨base,rfl,hb⟩:=hy
  exact src_of hz hb
 ·simp only [Option.some.injEq] at e
  subst e
  have:v=.slice none 0 0:=hy
  subst this
  exact src_of (ys:=[]) hz (.inl rfl)
 ·simp only [Option.some.injEq] at e
  subst e
  obtain ⟨base,cap,rfl,_⟩:=hy
  exact src_of (ys:=[]) hz (.inl rfl)
 ·rename_i l n
  split at e
  ·rename_i z' rs wr hl
   split at e
   ·rename_i hn
    simp only [Option.some.injEq] at e
    subst e
    obtain ⟨base,cap,flat,rfl,_,h1,h2,h3,_⟩:=own_rows (P:=P) hr hl hn hy
    cases rs with
    | nil=>exact src_of (ys:=[]) hz (.inl rfl)
    | cons row rs =>
     have hzz:z'=z:=by
      have h4:=(h2 0 row rfl).1
      have h5:=allLen_spec hz 0 row rfl
      omega
     subst hzz
     exact ⟨base,cap,flat,rfl,h1,h2,h3⟩
   ·simp at e
  ·simp at e
 ·rename_i l n a m
  split at e
  ·rename_i z' rs wr hl
   split at e
   ·rename_i hc
    simp only [Option.some.injEq] at e
    subst e
    exact view_src hr hl hc.1 hc.2 hz hy
   ·simp at e
  ·simp at e
 ·simp at e
theorem appendTo_sound {wq:Bool} {at_:Array TypeId} {t u ty:TypeId} {z b:Nat} {xs:AV} {ys:List (List AV)} {vx vy:Value} {h':Heap} (h0:at_[0]? = some t) (h1:at_[1]? = some u) (hu':SrcTy P u) (hes:es P t=some (z,b))
  (hr:Rel μ h w) (hx:Rep μ h w xs vx) (hy:Src2 P μ h w z ys vy) (e:appendTo wq h z b xs ys=some (x,h')):Made P μ h w (Builtin.append_ at_ ty #[vx,vy]) x h':=by
 obtain ⟨el,i,y,hu,hi,rfl,rfl,hz,hzc⟩:=es_zero hes
 obtain ⟨fy,hlen',hl',hin',hf'⟩:=hy
 have hin2:RowsN μ h (drewW w) i.size ys fy.toArray:=hin'.ext (drew_ext (μ:=μ) (h:=h) (w:=w))
 unfold appendTo at e
 split at e
 ·-- nil
  have:vx=.slice none 0 0:=hx
  subst this
  split at e
  ·rename_i hroom
   simp only [Option.some.injEq,Prod.mk.injEq] at e
   obtain ⟨rfl,rfl⟩:=e
   cases ys with
   | nil =>
    have hfy:fy=[]:=List.length_eq_zero_iff.1 (by simpa using hl')
    subst hfy
    have hrun:=append_fits_nil (P:=P) (base:=none) (w:=w) (ty:=ty) h0 h1 hu hu' hi hlen' (hf' w rfl)
    refine ⟨_,μ.set h.length none,w,hrun,Rel.push hr (.rows i.size [] wq) none (.inl ⟨Blank.nil,set_same _ _⟩),Ext.push hr (.rows i.size [] wq) none,?_⟩
    exact ⟨i.size,[],wq,none,0,by simp,Nat.le_refl _,rfl,fun _=>⟨Nat.le_refl _,fun _=>rfl,.inl rfl⟩⟩
   | cons y0 ys =>
    obtain ⟨c,hc,hrun⟩:=append_grow (P:=P) (w:=w) (ty:=ty) (base:=none) (n:=0) (cap:=0) (old:=[]) h0 h1 hu hu' hi hz hlen' (by simp) (by simpa using hroom) rfl (hf' _ rfl)
    refine made_new (c:=c) (rest:=Builtin.zeroCells y.cells (c - (0+(y0::ys).length))) (T:=el) hr (by simp) hl' hin2 (by omega) (by rw [zeroCells_size,hzc];simp) ?_
    rw [hrun]
    simp
  ·simp at e
 ·rename_i rs
  obtain ⟨base,rfl,hb⟩:=hx
  split at e
  ·rename_i hc0
   obtain ⟨hpos,hall,hroom⟩:=hc0
   simp only [Option.some.injEq,Prod.mk.injEq] at e
   obtain ⟨rfl,rfl⟩:=e
   obtain ⟨base2,cap2,fl,he,hl,hin,hf⟩:=src_of (P:=P) (μ:=μ) (h:=h) (w:=w) (cap:=rs.length) hall hb
   simp only [Value.slice.injEq,true_and] at he
   obtain ⟨rfl,rfl⟩:=he
   have hinr:RowsN μ h (drewW w) i.size rs fl.toArray:=hin.ext (drew_ext (μ:=μ) (h:=h) (w:=w))
   obtain ⟨c,hc,hrun⟩:=append_grow (P:=P) (w:=w) (ty:=ty) h0 h1 hu hu' hi hz hlen' (by omega) hroom (hf _ rfl) (hf' _ rfl)
   have hcat:=RowsN.append (rest:=[]) hl hinr hin2
   rw [List.append_nil] at hcat
   have:=made_new (wr:=wq) (s:=Builtin.append_ at_ ty #[.slice base rs.length rs.length,vy]) (P:=P) (c:=c) (rs:=rs++ys) (flat:=fl++fy) (rest:=Builtin.zeroCells y.cells (c - (rs.length+ys.length))) (T:=el) hr (by simp;omega) (by simp [hl,hl',Nat.add_mul]) hcat (by simp;omega) (by rw [zeroCells_size,hzc];simp) (by
    rw [hrun]
    have:(fl++fy).toArray=fl.toArray++fy.toArray:=by apply Array.ext';simp
    rw [this]
    simp)
   simpa using this
  ·split at e
   ·rename_i hy0
    subst hy0
    simp only [Option.some.injEq,Prod.mk.injEq] at e
    obtain ⟨rfl,rfl⟩:=e
    have hfy:fy=[]:=List.length_eq_zero_iff.1 (by simpa using hl')
    subst hfy
    exact ⟨_,μ,w,append_zero (P:=P) (w:=w) (ty:=ty) h0 h1 hu hu' hi (Nat.le_refl _) hlen' (hf' w rfl),hr,Ext.refl _ _ _,base,rfl,hb⟩
   ·simp at e
 ·rename_i l n
  split at e
  ·rename_i sz rs wr hlk
   split at e
   ·rename_i hc0
    obtain ⟨hn,rfl,hroom⟩:=hc0
    simp only [Option.some.injEq,Prod.mk.injEq] at e
    obtain ⟨rfl,rfl⟩:=e
    obtain ⟨base,cap,fl,rfl,hcap,hl,hin,hf,hb⟩:=own_rows (P:=P) hr hlk hn hx
    subst hn
    have hinr:RowsN μ h (drewW w) i.size rs fl.toArray:=hin.ext (drew_ext (μ:=μ) (h:=h) (w:=w))
    by_cases hfit:rs.length+ys.length≤cap
    ·rcases hb with ⟨rfl,rfl⟩ | ⟨b,vs,T,rfl,hm,⟨fz,hw,hfz⟩,hcz,hfl⟩
     ·-- nothing yet,and nothing comes
      have hy0:ys=[]:=List.length_eq_zero_iff.1 (by simp only [List.length_nil] at hfit;omega)
      subst hy0
      have hfy:fy=[]:=List.length_eq_zero_iff.1 (by simpa using hl')
      subst hfy
      have hrun:=append_fits_nil (P:=P) (base:=base) (w:=w) (ty:=ty) h0 h1 hu hu' hi hlen' (hf' w rfl)
      rw [List.append_nil,list_set_same hlk]
      exact ⟨_,μ,w,hrun,hr,Ext.refl _ _ _,hx⟩
     ·have hrun:=append_fits (P:=P) (ty:=ty) h0 h1 hu hu' hi hlen' hfit hw (by rcases hfz with rfl | hfz;exact Nat.zero_le _;exact hfz.2) hcz hl' (rowsN_cells hl' hin') (hf' w rfl)
      have hle:rs.length*i.size+fy.length≤vs.size:=by
       rw [hl',←Nat.add_mul]
       exact Nat.le_trans (Nat.mul_le_mul_right _ hfit) hcz
      have hsize:(vs.toList.take (rs.length*i.size)++fy++vs.toList.drop (rs.length*i.size+fy.length)).toArray.size=vs.size:=by
       simp;omega
      have ex:Ext μ h w μ (h.set l (.rows i.size (rs++ys) wr)) (w.setRow b (vs.toList.take (rs.length*i.size)++fy++vs.toList.drop (rs.length*i.size+fy.length)).toArray) :=
       Ext.update hr hlk hm hw (setRow_heap w b _ _ T _ hw) (fun b2 hb2=>setRow_other w b b2 _ hb2) rfl rfl rfl (by simp) hsize
        (fun o v hv hno=>by
         have ho:o < rs.length*i.size:=by
          have:¬(i.size*rs.length≤o):=fun hle=>hno (.inr hle)
          rw [Nat.mul_comm];omega
         simp only [List.getElem?_toArray]
         rw [list_get_splice _ _ _ _ (by simpa using hle),if_pos ho]
         simpa using hv)
        (fun o ho=>by
         rcases ho with ho | ho
         ·exact .inl ho
         ·right
          refine Nat.le_trans ?_ ho
          exact Nat.mul_le_mul_left _ (by simp))
        ⟨rfl,by simp⟩
      refine ⟨_,μ,_,hrun,Rel.update hr hlk hm (fun b2 hb2=>setRow_other w b b2 _ hb2) ex ?_,ex,?_⟩
      ·refine .inr ⟨b,_,T,hm,⟨fz,setRow_heap w b _ _ T _ hw,hfz.imp id fun hfz=>⟨hfz.1,Nat.le_trans hfz.2 (Nat.mul_le_mul_right _ (by simp))⟩⟩,by rw [hsize];refine Nat.le_trans ?_ hcz;exact Nat.mul_le_mul_right _ (by simpa using hfit),?_⟩
       have:=RowsN.append (rest:=vs.toList.drop (rs.length*i.size+fy.length)) hl hin hin'
       rw [hfl] at this
       exact this.ext ex
      ·exact ⟨i.size,rs++ys,wr,_,cap,by rw [List.getElem?_set_self (List.getElem?_eq_some_iff.1 hlk).1],by simp,rfl,fun _=>⟨hfit,fun h00=>by
        obtain ⟨z2,rs2,wr2,base2,cap2,hlk2,_,he2,hv2⟩:=hx
        rw [hlk] at hlk2
        simp only [Option.some.injEq,Blk.rows.injEq] at hlk2
        obtain ⟨rfl,rfl,rfl⟩:=hlk2
        simp only [Value.slice.injEq,true_and] at he2
        obtain ⟨_,rfl⟩:=he2
        exact (hv2 rfl).2.1 (by omega),.inr ⟨b,_,T,rfl,hm,⟨_,setRow_heap w b _ _ T _ hw⟩,by rw [hsize];exact hcz⟩⟩⟩
    ·obtain ⟨c,hc,hrun⟩:=append_grow (P:=P) (w:=w) (ty:=ty) h0 h1 hu hu' hi hz hlen' (by omega) hroom (hf _ rfl) (hf' _ rfl)
     exact made_moved (c:=c) (rest:=Builtin.zeroCells y.cells (c - (rs.length+ys.length))) (T:=el) hr hlk (by omega) hl hinr hl' hin2 hc (by rw [zeroCells_size,hzc]) hrun
   ·simp at e
  ·simp at e
 ·rename_i l n m
  split at e
  ·rename_i sz rs hlk
   split at e
   ·rename_i hc0
    obtain ⟨hn,rfl,hpos,hfit⟩:=hc0
    simp only [Option.some.injEq,Prod.mk.injEq] at e
    obtain ⟨rfl,rfl⟩:=e
    obtain ⟨cap,b,vs,T,rfl,h5,h6,hm,⟨fz,hw,hfz⟩,hlv,hcz,hin⟩:=view_rows hr hlk hn hpos hx
    have hfz0:fz=(0,0):=by
     rcases hfz with h | ⟨h,_⟩
     ·exact h
     ·simp at h
    subst hfz0
    simp only [Nat.zero_mul,Nat.zero_add] at h5 h6 hcz
    have hrun:=append_fits (P:=P) (ty:=ty) h0 h1 hu hu' hi hlen' (by omega:m+ys.length≤cap) hw (Nat.zero_le _) hcz hl' (rowsN_cells hl' hin') (hf' w rfl)
    obtain ⟨q0,q1,q2⟩:=rows_splice hr hlk hm hw hlv hin hl' hin' (by omega:m+ys.length≤rs.length)
    refine ⟨_,μ,_,by rw [Nat.zero_mul];exact hrun,q1,q2,?_⟩
    refine ⟨i.size,_,true,_,cap,List.getElem?_set_self (List.getElem?_eq_some_iff.1 hlk).1,by simp;omega,rfl,fun _=>⟨by omega,by omega,fun _=>⟨b,_,T,by simp,hm,⟨_,setRow_heap w b _ _ T _ hw⟩,by rw [q0];simpa using hcz⟩⟩⟩
   ·simp at e
  ·simp at e
 ·simp at e
theorem makeSlice_core {t:TypeId} {n m:AV} {vn vm:Value} {hz h':Heap} (hn:Rep μ h w n vn) (hm:Rep μ h w m vm) (e:makeSliceV P t hz n m=some (x,h')) :
  ∃ (z:Nat) (rs:List (List AV)) (arr:Array Value) (el:TypeId),x=.own hz.length rs.length∧h'=hz++[.rows z rs true]∧(Instr.makeSlice t vn vm).run P w=.ok (.slice (some ⟨w.heap.size,0,none⟩) rs.length rs.length) (w.alloc (.cells arr el))∧arr.size=rs.length*z∧RowsIn (Mut μ h) w z rs arr:=by
 unfold makeSliceV at e
 split at e
 ·rename_i k k'
  have e1:vn=.int .i64 k:=hn
  have e2:vm=.int .i64 k':=hm
  subst e1 e2
  split at e
  ·rename_i hkk
   subst hkk
   split at e
   ·rename_i z b hes
    split at e
    ·rename_i hc
     obtain ⟨hk0,hkb⟩:=hc
     obtain ⟨el,i,y,hu,hi,rfl,rfl,hz,hzc⟩:=es_zero hes
     unfold makeOf at e
     split at e
     ·rename_i az haz
      split at e
      ·rename_i rs hrs
       simp only [Option.some.injEq,Prod.mk.injEq] at e
       obtain ⟨rfl,rfl⟩:=e
       have hazy:az=ofVal y:=by
        unfold elemZero at haz
        rw [hu] at haz
        simp only [zv,hi,hz,Option.map_some,Option.some.injEq] at haz
        exact haz.symm
       subst hazy
       unfold makeRows at hrs
       split at hrs
       ·rename_i cs hcs
        split at hrs
        ·rename_i hcl
         simp only [Option.some.injEq] at hrs
         subst hrs
         obtain ⟨hs,hp⟩:=cellsOf_pure (M:=Mut μ h) (w:=w) hcs (ofVal_rep y)
         obtain ⟨j,rfl⟩:=Int.eq_ofNat_of_zero_le hk0
         simp only [Int.toNat_natCast]
         have hjb:j*(i.bytes+1)≤roomMax:=by exact_mod_cast hkb
         have hj:j≤j*(i.bytes+1):=Nat.le_mul_of_pos_right _ (by omega)
         have hjB:j*i.bytes≤j*(i.bytes+1):=Nat.mul_le_mul_left _ (by omega)
         have hwrap:IntKind.i64.wrap (j:Int)=j:=by
          unfold roomMax at hjb
          exact IntWalk.i64_in _ (by omega)
         have hbj:((i.bytes:Int)*(j:Int))≤35184372088832:=by
          have:((j*i.bytes:Nat):Int)≤35184372088832:=by unfold roomMax at hjb;omega
          rw [Int.natCast_mul] at this
          rw [Int.mul_comm];exact this
         let arr:Array Value:=(Array.range (j*i.size)).map (y.cells[· % y.cells.size]!)
         have hin:RowsIn (Mut μ h) w i.size (List.replicate j cs) arr:=fun r row hrow=>by
          rw [List.getElem?_replicate] at hrow
          split at hrow
          ·rename_i hr'
           simp only [Option.some.injEq] at hrow
           subst hrow
           refine ⟨hcl,hs,fun c a' ha=>?_⟩
           obtain ⟨v,h1,h2⟩:=hp.at c a' ha
           refine ⟨v,?_,h2⟩
           have hcz:c < i.size:=by rw [←hcl];exact (List.getElem?_eq_some_iff.1 ha).1
           have hlt:r*i.size+c < j*i.size:=by
            have:r*i.size+i.size≤j*i.size:=by rw [←Nat.succ_mul];exact Nat.mul_le_mul_right _ hr'
            omega
           have hmod:(r*i.size+c) % y.cells.size=c:=by
            rw [hzc,Nat.mul_comm,Nat.mul_add_mod]
            exact Nat.mod_eq_of_lt hcz
           have hyc:y.cells[c]? = some v:=by simpa using h1
           simp only [arr,Array.getElem?_map,Array.getElem?_range,hlt,if_true,Option.map_some,hmod]
           congr 1
           rw [getElem!_def,hyc]
          ·simp at hrow
         have hsz:arr.size=j*i.size:=by simp [arr]
         refine ⟨i.size,List.replicate j cs,arr,el,by rw [List.length_replicate],rfl,?_,by rw [hsz,List.length_replicate],hin⟩
         rw [List.length_replicate]
         have hti:∀ w:World,(typeInfo el).run P w=.ok i w:=fun w=>by simp [typeInfo,hi]
         have hso:∀ w:World,(sizeOf el).run P w=.ok i.size w:=fun w=>by simp [sizeOf,typeInfo,hi]
         have hzv:∀ w:World,(zeroValue el).run P w=.ok y w:=fun w=>by simp [zeroValue,typeInfo,hi,hz]
         have hcond:¬(((((j:Int) < 0||decide ((i.bytes:Int)*(j:Int) > 2 ^ 48))||decide ((j:Int) < 0))||decide ((j:Int) > j))=true):=by
          simp
          omega
         by_cases hnz:j*i.size=0
         ·have harr:arr=#[]:=Array.eq_empty_of_size_eq_zero (by rw [hsz,hnz])
          have hze:(Array.range 0 |>.map fun x=>(#[]:Array Value)[x % (#[]:Array Value).size]!)=#[]:=by simp
          rw [harr]
          simp only [Instr.makeSlice,Sem.run_bind,run_underlying hu,Result.andThen_ok,asInt,asIntOf,pure_bind,Sem.run_pure,hti,hwrap,Sem.run_ite,if_neg hcond,run_askRoom,Int.toNat_natCast,hso,hnz,if_true,newRow,run_newObj,hze]
          rfl
         ·simp only [Instr.makeSlice,Sem.run_bind,run_underlying hu,Result.andThen_ok,asInt,asIntOf,pure_bind,Sem.run_pure,hti,hwrap,Sem.run_ite,if_neg hcond,run_askRoom,Int.toNat_natCast,hso,if_neg hnz,hzv,newRow,run_newObj]
          rfl
        ·simp at hrs
       ·simp at hrs
      ·simp at e
     ·simp at e
    ·simp at e
   ·simp at e
  ·simp at e
 ·simp at e
theorem makeSlice_sound {t:TypeId} {n m:AV} {vn vm:Value} {h':Heap} (hr:Rel μ h w) (hn:Rep μ h w n vn) (hm:Rep μ h w m vm) (e:makeSliceV P t h n m=some (x,h')):Made P μ h w (Instr.makeSlice t vn vm) x h':=by
 obtain ⟨z,rs,arr,el,rfl,rfl,hrun,hsz,hin⟩:=makeSlice_core hn hm e
 have ex:=Ext.push hr (.rows z rs true) (some (.cells arr el))
 have hheap:(w.alloc (.cells arr el)).heap[w.heap.size]? = some (.cells arr el (0,0)):=alloc_new _
 refine ⟨_,_,w.alloc (.cells arr el),hrun,Rel.push hr (.rows z rs true) (some (.cells arr el)) ?_,ex,?_⟩
 ·exact .inr ⟨w.heap.size,arr,el,set_same _ _,.free hheap,by simp [hsz],(hin.keep ex.keep).some⟩
 ·exact ⟨z,rs,true,_,rs.length,by simp,by simp,rfl,fun _=>⟨Nat.le_refl _,fun h00=>h00,.inr ⟨w.heap.size,arr,el,rfl,set_same _ _,⟨_,hheap⟩,by rw [hsz];exact Nat.le_refl _⟩⟩⟩
theorem OwnRep.view {l n:Nat} {v:Value} (hv:OwnRep μ h w l n v):VwRep μ h w l n 0 n v:=by
 obtain ⟨z,rs,wr,base,cap,hl,hn,rfl,h4⟩:=hv
 refine ⟨z,rs,wr,base,cap,hl,hn,rfl,fun e=>?_⟩
 obtain ⟨h5,_,h6⟩:=h4 e
 refine ⟨by omega,by omega,fun h0=>?_⟩
 rcases h6 with h6 | ⟨b,vs,T,rfl,q1,q2,q3⟩
 ·omega
 ·exact ⟨b,vs,T,by rw [Nat.zero_mul],q1,q2,by rw [Nat.zero_add];exact q3⟩
theorem VwRep.take {l n a q k:Nat} {base:Option Addr} {cap:Nat} (hv:VwRep μ h w l n a q (.slice base q cap)) (hk:k≤q):VwRep μ h w l n a k (.slice base k cap):=by
 obtain ⟨z,rs,wr,base',cap',hl,hn,he,h4⟩:=hv
 simp only [Value.slice.injEq,true_and] at he
 obtain ⟨rfl,rfl⟩:=he
 exact ⟨z,rs,wr,base,cap,hl,hn,rfl,fun e=>⟨by have:=(h4 e).1;omega,(h4 e).2⟩⟩
def Copied (P:Program) (μ:Mp Bs) (h:Heap) (w:World) (z m:Nat) (ys:List (List AV)) (v:Value):Prop :=
 ∃ (len:Nat) (flat:List Value),(∀ w1:World,(Builtin.lenOf v).run P w1=.ok len w1)∧Nat.min len m=ys.length∧flat.length=ys.length*z∧RowsN μ h w z ys flat.toArray∧(Builtin.firstCells z ys.length v).run P w=.ok flat.toArray w
theorem copySrc_sound {z m:Nat} {y:AV} {ys:List (List AV)} {v:Value} (hr:Rel μ h w) (e:copySrc h m y=some ys) (hz:allLen z ys=true) (hy:Rep μ h w y v):Copied P μ h w z m ys v:=by
 have plain:∀ ys',rowsOf h y=some ys'→(if ys'.length≤m then some ys' else none)=some ys→Copied P μ h w z m ys v:=fun ys' hrs e=>by
  split at e
  ·rename_i hle
   simp only [Option.some.injEq] at e
   subst e
   obtain ⟨base,cap,flat,rfl,q1,q2,q3⟩:=rowsOf_src (P:=P) hr hrs hz hy
   exact ⟨ys'.length,flat,fun _=>rfl,Nat.min_eq_left hle,q1,q2,q3 w rfl⟩
  ·simp at e
 unfold copySrc at e
 split at e
 ·rename_i l n a q
  split at e
  ·rename_i z' rs wr hl
   split at e
   ·rename_i hc
    simp only [Option.some.injEq] at e
    subst e
    obtain ⟨z2,rs2,wr2,base,cap,h1,h2,rfl,h4⟩:=id hy
    have hy:VwRep μ h w l n a q (.slice base q cap):=hy
    have hk:min q m≤q:=Nat.min_le_left _ _
    have hlen:(cut rs a (a+min q m)).length=min q m:=by rw [cut_len _ _ _ (by omega)];omega
    obtain ⟨base',cap',flat,he,q1,q2,q3⟩:=view_src (P:=P) hr hl hc.1 (by omega) hz (VwRep.take hy hk)
    refine ⟨q,flat,fun _=>rfl,by rw [hlen],q1,q2,?_⟩
    have q4:=q3 w rfl
    cases base with
    | none=>exact q4
    | some ad=>exact q4
   ·simp at e
  ·simp at e
 ·split at e
  ·rename_i ys' hrs
   exact plain ys' hrs e
  ·simp at e
theorem copyAt_sound {at_:Array TypeId} {t ty:TypeId} {z bb l n a m:Nat} {x src:AV} {v vs:Value} {h':Heap} (h0:at_[0]? = some t) (hes:es P t=some (z,bb)) (hr:Rel μ h w) (e:copyAt h z l n a m src=some (x,h')) (hx:VwRep μ h w l n a m v) (hs:Rep μ h w src vs):Made P μ h w (Builtin.copy_ at_ ty #[v,vs]) x h':=by
 obtain ⟨el,i,y0,hu,hi,rfl,rfl,hz,hzc⟩:=es_zero hes
 unfold copyAt at e
 split at e
 ·rename_i sz rs hl
  split at e
  ·rename_i hc
   obtain ⟨hn,rfl,ham,hm0⟩:=hc
   split at e
   ·rename_i ys hys
    split at e
    ·rename_i hal
     simp only [Option.some.injEq,Prod.mk.injEq] at e
     obtain ⟨rfl,rfl⟩:=e
     obtain ⟨len,flat,p1,p2,p3,p4,p5⟩:=copySrc_sound (P:=P) hr hys hal hs
     obtain ⟨cap,b,cur,T,rfl,h5,h6,hm,⟨fz,hw,hfz⟩,hlv,hcz,hin⟩:=view_rows hr hl hn (by omega) hx
     have hfz0:fz=(0,0):=by
      rcases hfz with h | ⟨h,_⟩
      ·exact h
      ·simp at h
     subst hfz0
     have hle0:ys.length≤m:=by rw [←p2];exact Nat.min_le_right _ _
     obtain ⟨q0,q1,q2⟩:=rows_splice (m:=a) hr hl hm hw hlv hin p3 p4 (by omega)
     have hle:a*i.size+flat.length≤cur.size:=by
      rw [p3,←Nat.add_mul]
      exact Nat.le_trans (Nat.mul_le_mul_right _ (by omega:a+ys.length≤rs.length)) hlv
     have hst:=run_storeCells_atF P b (a*i.size) T (0,0) flat 0 cur w hw (Nat.zero_le _) (by simpa using hle) (rowsN_cells p3 p4)
     simp only [Nat.add_zero] at hst
     refine ⟨goInt ys.length,μ,_,?_,q1,q2,rfl⟩
     have hsz:(sizeOf el).run P w=.ok i.size w:=by simp [sizeOf,typeInfo,hi]
     simp only [Builtin.copy_,h0,List.getElem?_toArray,List.getElem?_cons_zero,List.getElem?_cons_succ,Sem.run_bind,run_underlying hu,Result.andThen_ok,p1,p2,hsz,p5,hst,Sem.run_pure]
    ·simp at e
   ·simp at e
  ·simp at e
 ·simp at e
theorem copyTo_sound {at_:Array TypeId} {t ty:TypeId} {z bb:Nat} {x src dst:AV} {v vs:Value} {h':Heap} (h0:at_[0]? = some t) (hes:es P t=some (z,bb)) (hr:Rel μ h w) (e:copyTo h z src dst=some (x,h')) (hx:Rep μ h w dst v) (hs:Rep μ h w src vs):Made P μ h w (Builtin.copy_ at_ ty #[v,vs]) x h':=by
 unfold copyTo at e
 split at e
 ·exact copyAt_sound h0 hes hr e hx hs
 ·exact copyAt_sound h0 hes hr e (OwnRep.view hx) hs
 ·simp at e
theorem appendMk_sound {at_:Array TypeId} {t u ty:TypeId} {z b:Nat} {xs ys:AV} {vx vy:Value} {h':Heap} (h0:at_[0]? = some t) (h1:at_[1]? = some u) (hu':isIntT P u=true) (hes:es P t=some (z,b)) (hr:Rel μ h w) (e:appendMk z b h (elemZero P t) xs ys=some (x,h')) (hx:Rep μ h w xs vx) (hy:Rep μ h w ys vy):Made P μ h w (Builtin.append_ at_ ty #[vx,vy]) x h':=by
 obtain ⟨el,i,y,hu,hi,rfl,rfl,hz,hzc⟩:=es_zero hes
 obtain ⟨kk,hkk⟩:∃ k,P.underlying u=some (.int k):=by
  unfold isIntT at hu'
  split at hu'
  ·rename_i k hk;exact ⟨k,hk⟩
  ·simp at hu'
 unfold appendMk at e
 split at e
 ·rename_i n
  have hx:vx=.slice none 0 0:=hx
  have hy:vy=.int .i64 n:=hy
  subst hx hy
  split at e
  ·rename_i hc
   obtain ⟨hn0,hroom⟩:=hc
   obtain ⟨j,rfl⟩:=Int.eq_ofNat_of_zero_le (Int.le_of_lt hn0)
   unfold makeOf at e
   split at e
   ·rename_i a ha
    have hay:a=ofVal y:=by
     unfold elemZero at ha
     rw [hu] at ha
     simp only [zv,hi,hz,Option.map_some,Option.some.injEq] at ha
     exact ha.symm
    subst hay
    split at e
    ·rename_i rs hrs
     simp only [Option.some.injEq,Prod.mk.injEq] at e
     obtain ⟨rfl,rfl⟩:=e
     unfold makeRows at hrs
     split at hrs
     ·rename_i cs hcs
      split at hrs
      ·rename_i hcl
       simp only [Option.some.injEq,Int.toNat_natCast] at hrs
       subst hrs
       have hroom':j*(i.bytes+1)≤roomMax:=by exact_mod_cast hroom
       have hj:0 < j:=by exact_mod_cast hn0
       have hjr:j≤j*(i.bytes+1):=Nat.le_mul_of_pos_right _ (by omega)
       have hjb:j*i.bytes≤j*(i.bytes+1):=Nat.mul_le_mul_left _ (by omega)
       have hb:¬(Builtin.nextslicecap j 0*i.bytes > 2 ^ 48):=by
        have h2:=nextcap_le (need:=j) (cap:=0) hj
        have h3:Builtin.nextslicecap j 0*i.bytes≤2*j*(i.bytes+1):=Nat.mul_le_mul h2 (by omega)
        have h4:2*j*(i.bytes+1)=2*(j*(i.bytes+1)):=by rw [Nat.mul_assoc]
        unfold roomMax at hroom'
        omega
       have hmax:IntKind.i64.max=9223372036854775807:=by decide
       have hb2:¬(((j:Nat):Int) > IntKind.i64.max∧(True∨i.bytes=0)):=by
        rw [hmax]
        unfold roomMax at hroom'
        omega
       have hwrap:IntKind.i64.wrap ((j:Nat):Int)=(j:Int):=by
        unfold roomMax at hroom'
        exact IntWalk.i64_in _ (by omega)
       have hneg:¬((j:Int) < 0):=by omega
       have hbig:¬((j:Int)*(i.bytes:Int) > 2 ^ 48):=by
        have:((j*i.bytes:Nat):Int)≤35184372088832:=by unfold roomMax at hroom';omega
        rw [Int.natCast_mul] at this
        omega
       obtain ⟨c,hc,hdraw⟩:∃ c,j≤c∧(choose (.appendCap j 0 el)).run P w=.ok c (drewW w):=by
        refine ⟨_,?_,by simp only [run_choose,Question.forced,Bool.false_eq_true,if_false];rfl⟩
        simp only [Question.cut]
        omega
       have hzv:∀ w:World,(zeroValue el).run P w=.ok y w:=fun w=>by simp [zeroValue,typeInfo,hi,hz]
       have hso:∀ w:World,(sizeOf el).run P w=.ok i.size w:=fun w=>by simp [sizeOf,typeInfo,hi]
       have hti:∀ w:World,(typeInfo el).run P w=.ok i w:=fun w=>by simp [typeInfo,hi]
       let arr:Array Value:=Builtin.zeroCells y.cells j++Builtin.zeroCells y.cells (c - j)
       have hrun:(Builtin.append_ at_ ty #[.slice none 0 0,.int .i64 (j:Int)]).run P w=.ok (.slice (some ⟨w.heap.size,0,none⟩) j c) ((drewW w).alloc (.cells arr el)):=by
        by_cases hnz:j*i.size=0
        ·have harr:Builtin.zeroCells y.cells j=#[]:=Array.eq_empty_of_size_eq_zero (by rw [zeroCells_size,hzc,hnz])
         simp only [arr,harr]
         simp only [Builtin.append_,h0,h1,Sem.run_bind,run_underlying hu,run_underlying hkk,Result.andThen_ok,Sem.run_pure,List.getElem?_toArray,List.getElem?_cons_zero,List.getElem?_cons_succ,hso,if_true,asInt,asIntOf,pure_bind,hwrap,Sem.run_ite,if_neg hneg,hti,if_neg hbig,Int.toNat_natCast,
          Nat.zero_add,if_neg (Nat.not_le.2 hj),if_neg hb2,if_neg hb,hdraw,run_askRoom,Builtin.firstCells,hnz,if_true,Bool.not_true,Bool.false_eq_true,if_false,hzv,newRow,run_newObj]
         rfl
        ·simp only [Builtin.append_,h0,h1,Sem.run_bind,run_underlying hu,run_underlying hkk,Result.andThen_ok,Sem.run_pure,List.getElem?_toArray,List.getElem?_cons_zero,List.getElem?_cons_succ,hso,if_true,asInt,asIntOf,pure_bind,hwrap,Sem.run_ite,if_neg hneg,hti,if_neg hbig,Int.toNat_natCast,
          Nat.zero_add,if_neg (Nat.not_le.2 hj),if_neg hb2,if_neg hb,hdraw,run_askRoom,Builtin.firstCells,if_neg hnz,Bool.not_true,Bool.false_eq_true,if_false,hzv,newRow,run_newObj,Array.empty_append]
         rfl
       have hzi:RowsIn (Mut μ h) w i.size (List.replicate j cs) (Builtin.zeroCells y.cells j):=zero_rows hcs hcl hzc
       have hin:RowsIn (Mut μ h) w i.size (List.replicate j cs) arr:=fun r row hrow=>by
        obtain ⟨q1,q2,q3⟩:=hzi r row hrow
        refine ⟨q1,q2,fun c a' ha=>?_⟩
        obtain ⟨v,q4,q5⟩:=q3 c a' ha
        refine ⟨v,?_,q5⟩
        have:=(Array.getElem?_eq_some_iff.1 q4).1
        simp only [arr]
        rw [Array.getElem?_append_left this]
        exact q4
       have hasz:arr.size=c*i.size:=by
        simp only [arr,Array.size_append,zeroCells_size,hzc]
        rw [←Nat.add_mul];congr 1;omega
       have hd:=drew_ext (μ:=μ) (h:=h) (w:=w)
       have hrd:Rel μ h (drewW w):=drew_rel hr
       have ex:=Ext.push hrd (.rows i.size (List.replicate j cs) true) (some (.cells arr el))
       have hheap:((drewW w).alloc (.cells arr el)).heap[(drewW w).heap.size]? = some (.cells arr el (0,0)):=alloc_new _
       refine ⟨_,_,_,hrun,Rel.push hrd (.rows i.size (List.replicate j cs) true) (some (.cells arr el)) ?_,hd.trans ex,?_⟩
       ·exact .inr ⟨(drewW w).heap.size,arr,el,set_same _ _,.free hheap,by rw [hasz,List.length_replicate];exact Nat.mul_le_mul_right _ hc,((hin.keep hd.keep).keep ex.keep).some⟩
       ·exact ⟨i.size,List.replicate j cs,true,_,c,by simp,by simp,rfl,fun _=>⟨hc,fun h00=>by omega,.inr ⟨(drewW w).heap.size,arr,el,rfl,set_same _ _,⟨_,hheap⟩,by rw [hasz];exact Nat.le_refl _⟩⟩⟩
      ·simp at hrs
     ·simp at hrs
    ·simp at e
   ·simp at e
  ·simp at e
 ·simp at e
theorem goes_made {s:Sem Value} {h':Heap} (hs:(execOp a.eval o).run P w=(s.run P w).andThen fun v w'=>.ok (.value v) w') (hm:Made P μ h w s x h'):Goes P o a μ h w x h':=by
 intro next Q hn
 obtain ⟨u,μ',w',h1,h2,h3,h4⟩:=hm
 unfold Oper.wp
 rw [hs,h1]
 exact hn u μ' w' h2 h3 h4
theorem appendTown_sound {wq:Bool} {at_:Array TypeId} {t u ty e0:TypeId} {z b l n:Nat} {ys:List (List AV)} {vx vy:Value} {h':Heap} (h0:at_[0]? = some t) (h1:at_[1]? = some u) (hu':SrcTy P u) (hes:es P t=some (z,b)) (hel:elT P t=some e0)
  (hr:Rel μ h w) (hx:TownRep μ h w e0 l n vx) (hy:Src2 P μ h w z ys vy) (e:appendTo wq h z b (.own l n) ys=some (x,h')):∃ m,x=.own l m∧Made P μ h w (Builtin.append_ at_ ty #[vx,vy]) (.town e0 l m) h':=by
 obtain ⟨el,i,y,hu,hi,rfl,rfl,hz,hzc⟩:=es_zero hes
 have hel:el=e0:=by simp only [elT,hu,Option.some.injEq] at hel;exact hel
 subst hel
 obtain ⟨fy,hlen',hl',hin',hf'⟩:=hy
 have hin2:RowsN μ h (drewW w) i.size ys fy.toArray:=hin'.ext (drew_ext (μ:=μ) (h:=h) (w:=w))
 simp only [appendTo] at e
 split at e
 ·rename_i sz rs wr hlk
  split at e
  ·rename_i hc0
   obtain ⟨hn,rfl,hroom⟩:=hc0
   simp only [Option.some.injEq,Prod.mk.injEq] at e
   obtain ⟨rfl,rfl⟩:=e
   refine ⟨_,rfl,?_⟩
   obtain ⟨base,cap,fl,rfl,hcap,hl,hin,hf,hb⟩:=own_rows (P:=P) hr hlk hn hx.own
   subst hn
   have hinr:RowsN μ h (drewW w) i.size rs fl.toArray:=hin.ext (drew_ext (μ:=μ) (h:=h) (w:=w))
   by_cases hfit:rs.length+ys.length≤cap
   ·rcases hb with ⟨rfl,rfl⟩ | ⟨b,vs,T,rfl,hm,⟨fz,hw,hfz⟩,hcz,hfl⟩
    ·have hy0:ys=[]:=List.length_eq_zero_iff.1 (by simp only [List.length_nil] at hfit;omega)
     subst hy0
     have hfy:fy=[]:=List.length_eq_zero_iff.1 (by simpa using hl')
     subst hfy
     have hrun:=append_fits_nil (P:=P) (base:=base) (w:=w) (ty:=ty) h0 h1 hu hu' hi hlen' (hf' w rfl)
     rw [List.append_nil,list_set_same hlk]
     exact ⟨_,μ,w,hrun,hr,Ext.refl _ _ _,hx⟩
    ·have hT:T=el:=by
      obtain ⟨z2,rs2,wr2,base2,cap2,hlk2,_,he2,hv2⟩:=hx
      rw [hlk] at hlk2
      simp only [Option.some.injEq,Blk.rows.injEq] at hlk2
      obtain ⟨rfl,rfl,rfl⟩:=hlk2
      obtain ⟨_,_,hv3⟩:=hv2 rfl
      simp only [Value.slice.injEq,true_and] at he2
      obtain ⟨rfl,rfl⟩:=he2
      rcases hv3 with ⟨hx,_⟩ | ⟨b3,vs3,hb3,_,⟨fz3,hw3⟩,_⟩
      ·simp at hx
      ·simp only [Option.some.injEq,Addr.mk.injEq,and_true] at hb3
       obtain rfl:=hb3
       rw [hw] at hw3
       simp only [Option.some.injEq,Obj.cells.injEq] at hw3
       exact hw3.2.1
     subst hT
     have hrun:=append_fits (P:=P) (ty:=ty) h0 h1 hu hu' hi hlen' hfit hw (by rcases hfz with rfl | hfz;exact Nat.zero_le _;exact hfz.2) hcz hl' (rowsN_cells hl' hin') (hf' w rfl)
     have hle:rs.length*i.size+fy.length≤vs.size:=by
      rw [hl',←Nat.add_mul]
      exact Nat.le_trans (Nat.mul_le_mul_right _ hfit) hcz
     have hsize:(vs.toList.take (rs.length*i.size)++fy++vs.toList.drop (rs.length*i.size+fy.length)).toArray.size=vs.size:=by
      simp;omega
     have ex:Ext μ h w μ (h.set l (.rows i.size (rs++ys) wr)) (w.setRow b (vs.toList.take (rs.length*i.size)++fy++vs.toList.drop (rs.length*i.size+fy.length)).toArray) :=
      Ext.update hr hlk hm hw (setRow_heap w b _ _ T _ hw) (fun b2 hb2=>setRow_other w b b2 _ hb2) rfl rfl rfl (by simp) hsize
       (fun o v hv hno=>by
        have ho:o < rs.length*i.size:=by
         have:¬(i.size*rs.length≤o):=fun hle=>hno (.inr hle)
         rw [Nat.mul_comm];omega
        simp only [List.getElem?_toArray]
        rw [list_get_splice _ _ _ _ (by simpa using hle),if_pos ho]
        simpa using hv)
       (fun o ho=>by
        rcases ho with ho | ho
        ·exact .inl ho
        ·right
         refine Nat.le_trans ?_ ho
         exact Nat.mul_le_mul_left _ (by simp))
       ⟨rfl,by simp⟩
     refine ⟨_,μ,_,hrun,Rel.update hr hlk hm (fun b2 hb2=>setRow_other w b b2 _ hb2) ex ?_,ex,?_⟩
     ·refine .inr ⟨b,_,T,hm,⟨fz,setRow_heap w b _ _ T _ hw,hfz.imp id fun hfz=>⟨hfz.1,Nat.le_trans hfz.2 (Nat.mul_le_mul_right _ (by simp))⟩⟩,by rw [hsize];refine Nat.le_trans ?_ hcz;exact Nat.mul_le_mul_right _ (by simpa using hfit),?_⟩
      have:=RowsN.append (rest:=vs.toList.drop (rs.length*i.size+fy.length)) hl hin hin'
      rw [hfl] at this
      exact this.ext ex
     ·exact ⟨i.size,rs++ys,wr,_,cap,by rw [List.getElem?_set_self (List.getElem?_eq_some_iff.1 hlk).1],by simp,rfl,fun _=>⟨hfit,fun h00=>by
       obtain ⟨z2,rs2,wr2,base2,cap2,hlk2,_,he2,hv2⟩:=hx
       rw [hlk] at hlk2
       simp only [Option.some.injEq,Blk.rows.injEq] at hlk2
       obtain ⟨rfl,rfl,rfl⟩:=hlk2
       simp only [Value.slice.injEq,true_and] at he2
       obtain ⟨_,rfl⟩:=he2
       exact (hv2 rfl).2.1 (by omega),.inr ⟨b,_,rfl,hm,⟨_,setRow_heap w b _ _ T _ hw⟩,by rw [hsize];exact hcz⟩⟩⟩
   ·obtain ⟨c,hc,hrun⟩:=append_grow (P:=P) (w:=w) (ty:=ty) h0 h1 hu hu' hi hz hlen' (by omega) hroom (hf _ rfl) (hf' _ rfl)
    exact made_movedT (c:=c) (rest:=Builtin.zeroCells y.cells (c - (rs.length+ys.length))) (T:=el) hr hlk (by omega) hl hinr hl' hin2 hc (by rw [zeroCells_size,hzc]) hrun
  ·simp at e
 ·simp at e
theorem appendX_sound {wq:Bool} {at_:Array TypeId} {t u ty:TypeId} {z b:Nat} {xs:AV} {ys:List (List AV)} {vx vy:Value} {h':Heap} (h0:at_[0]? = some t) (h1:at_[1]? = some u) (hu':SrcTy P u) (hes:es P t=some (z,b))
  (hr:Rel μ h w) (hx:Rep μ h w xs vx) (hy:Src2 P μ h w z ys vy) (e:appendX (elT P t) wq h z b ys xs=some (x,h')):Made P μ h w (Builtin.append_ at_ ty #[vx,vy]) x h':=by
 unfold appendX at e
 split at e
 ·rename_i t0 l n
  split at e
  ·rename_i hel
   cases ha:appendTo wq h z b (.own l n) ys with
   | none=>simp [ha,tyO] at e
   | some p =>
    obtain ⟨x0,h0'⟩:=p
    obtain ⟨m,rfl,hm⟩:=appendTown_sound (ty:=ty) h0 h1 hu' hes hel hr hx hy ha
    simp only [ha,tyO,Option.some.injEq,Prod.mk.injEq] at e
    obtain ⟨rfl,rfl⟩:=e
    exact hm
  ·simp at e
 ·exact appendTo_sound (ty:=ty) h0 h1 hu' hes hr hx hy e
theorem append_goes {wq:Bool} {c:Call} {ev:Operand→AV} {h':Heap} (hr:Rel μ h w) (he:EvRep μ h w ev a.eval) (ho:o.op=.call c) (hc:c.callee=.builtin .append)
  (e:appendV P wq c.argTypes[0]? c.argTypes[1]? h (evs ev c.args.toList)=some (x,h')):Goes P o a μ h w x h':=by
 have hargs:=evs_rep he c.args.toList
 have hmap:c.args.map a.eval=(c.args.toList.map a.eval).toArray:=by apply Array.ext';simp
 unfold appendV at e
 split at e
 ·rename_i xs ys hxy
  rw [hxy] at hargs
  obtain ⟨v,vr,hv,hx,v2,vr2,hv2,hy,hnil⟩:=hargs
  have hnil':vr2=[]:=hnil
  subst hnil' hv2
  split at e
  ·rename_i t u ht hu
   split at e
   ·rename_i z0 b0 htk
    split at e
    ·rename_i z b hes
     split at e
     ·rename_i rs hrs
      split at e
      ·rename_i hal
       have hu':SrcTy P u:=by
        unfold tk at htk
        split at htk
        ·simp at htk
        ·rename_i e' he';exact .inl ⟨e',he'⟩
        ·split at htk<;>simp at htk
        ·simp at htk
       refine goes_made ?_ (appendX_sound (ty:=o.type) ht hu hu' hes hr hx (rowsOf_src hr hrs hal hy).two e)
       rw [builtin_run ho hc]
       simp only [pure_bind,invoke,builtin,Sem.run_bind,hmap,hv]
       rfl
      ·simp at e
     ·simp at e
    ·simp at e
   ·rename_i htk
    split at e
    ·rename_i z b hes
     unfold appendS at e
     split at e
     ·rename_i s
      split at e
      ·rename_i hz
       subst hz
       have hu':SrcTy P u:=by
        unfold tk at htk
        split at htk
        ·rename_i he';exact .inr he'
        ·split at htk<;>simp at htk
        ·split at htk<;>simp at htk
        ·simp at htk
       have hy:v2=.string ⟨s.toArray⟩:=hy
       subst hy
       refine goes_made ?_ (appendX_sound (ty:=o.type) ht hu hu' hes hr hx src_str e)
       rw [builtin_run ho hc]
       simp only [pure_bind,invoke,builtin,Sem.run_bind,hmap,hv]
       rfl
      ·simp at e
     ·simp at e
    ·simp at e
   ·split at e
    ·rename_i z b hes
     split at e
     ·rename_i hiu
      refine goes_made ?_ (appendMk_sound (ty:=o.type) ht hu hiu hes hr e hx hy)
      rw [builtin_run ho hc]
      simp only [pure_bind,invoke,builtin,Sem.run_bind,hmap,hv]
      rfl
     ·simp at e
    ·simp at e
   ·simp at e
  ·simp at e
 ·simp at e
theorem clear_goes {c:Call} {ev:Operand→AV} {h':Heap} (hr:Rel μ h w) (he:EvRep μ h w ev a.eval) (ho:o.op=.call c) (hc:c.callee=.builtin .clear) (e:vunit (clearV P c.argTypes[0]? h (evs ev c.args.toList))=some (x,h')):Goes P o a μ h w x h':=by
 have hargs:=evs_rep he c.args.toList
 have hmap:c.args.map a.eval=(c.args.toList.map a.eval).toArray:=by apply Array.ext';simp
 unfold vunit at e
 split at e
 ·rename_i h1 hcl
  simp only [Option.some.injEq,Prod.mk.injEq] at e
  obtain ⟨rfl,rfl⟩:=e
  unfold clearV at hcl
  split at hcl
  ·rename_i y hy
   rw [hy] at hargs
   obtain ⟨v,vr,hv,hx,hnil⟩:=hargs
   have hnil':vr=[]:=hnil
   subst hnil'
   split at hcl
   ·rename_i t ht
    split at hcl
    ·rename_i z b az hes hez
     split at hcl
     ·rename_i zr hzr
      obtain ⟨w',q1,q2,q3⟩:=clear_sound (ty:=o.type) ht hes hez hzr hr hcl hx
      refine goes_made (s:=Builtin.clear_ c.argTypes o.type #[v]) ?_ ⟨_,_,_,q1,q2,q3,trivial⟩
      ·rw [builtin_run ho hc]
       simp only [pure_bind,invoke,builtin,Sem.run_bind,hmap,hv]
       rfl
     ·simp at hcl
    ·simp at hcl
   ·simp at hcl
  ·simp at hcl
 ·simp at e
theorem convertO_sound {a b:TypeId} {y x:AV} {v:Value} (hr:Rel μ h w) (e:convertO h (cvOf P a b) y=some x) (hy:Rep μ h w y v):Quiet P μ h w (convert a b v) x:=by
 unfold convertO at e
 split at e
 ·rename_i l n hc
  obtain ⟨hb,u,ha,hu⟩:=cv_ofBytes hc
  split at e
  ·rename_i rs wr hl
   split at e
   ·rename_i hn
    unfold strIn at e
    split at e
    ·rename_i bs hbs
     simp only [Option.some.injEq] at e
     subst e
     obtain ⟨xs,rfl,rfl⟩:=bytesIn_spec _ _ hbs
     have hy:OwnRep μ h w l n v:=hy
     rw [List.length_map] at hn
     refine Quiet.of_same hr ⟨.string ⟨(List.map (fun n:Int=>UInt8.ofNat n.toNat) xs).toArray⟩,?_,rfl⟩
     rcases Nat.eq_zero_or_pos n with h0 | h0
     ·obtain ⟨z2,rs2,wr2,base,cap,hl2,_,rfl,hv⟩:=hy
      have hx0:xs=[]:=List.length_eq_zero_iff.1 (by omega)
      subst hx0 h0
      exact bytes_run (μ:=μ) (h:=h) ha hu hb [] base cap (.inl rfl)
     ·obtain ⟨cap,bb,vs,T,rfl,h5,h6,hm,⟨fz,hw,hfz⟩,hlv,hcz,hin⟩:=view_rows hr hl (by rw [List.length_map];exact hn) h0 (OwnRep.view hy)
      rw [←hn]
      refine run_convert_bytes_arg w a u ha hu bb _ xs.length cap xs rfl (fun i hi=>?_) b hb
      have hrow:(xs.map (fun n=>[AV.int .u8 n]))[i]? = some [AV.int .u8 (xs[i]'hi)]:=by simp [hi]
      obtain ⟨q1,q2,q3⟩:=hin i _ hrow
      obtain ⟨v,q4,q5⟩:=q3 0 _ rfl
      have q5:v=.int .u8 (xs[i]'hi):=q5
      subst q5
      simp only [World.cell?,hw]
      simpa [List.getD,hi] using q4
    ·simp at e
   ·simp at e
  ·simp at e
 ·exact convert_sound hr e hy
theorem convert_goes {t u:TypeId} {y:Operand} {ev:Operand→AV} {h':Heap} (hr:Rel μ h w) (he:EvRep μ h w ev a.eval) (ho:o.op=.convert t u y) (e:val h (convertO h (cvOf P t u) (ev y))=some (x,h')):Goes P o a μ h w x h':=by
 cases hcv:convertO h (cvOf P t u) (ev y) with
 | none=>simp [hcv,val] at e
 | some z =>
  simp only [hcv,val,Option.some.injEq,Prod.mk.injEq] at e
  obtain ⟨rfl,rfl⟩:=e
  exact goes_quiet (by simp only [execOp,ho]) (convertO_sound hr hcv (he y))
theorem cap_goes {c:Call} {ev:Operand→AV} {h':Heap} (hr:Rel μ h w) (he:EvRep μ h w ev a.eval) (ho:o.op=.call c) (hc:c.callee=.builtin .cap) (e:val h (capH h (tk? P c.argTypes[0]?) (evs ev c.args.toList))=some (x,h')):Goes P o a μ h w x h':=by
 have hargs:=evs_rep he c.args.toList
 have hmap:c.args.map a.eval=(c.args.toList.map a.eval).toArray:=by apply Array.ext';simp
 have fin:∀ (t:TypeId) (v:Value) (y:AV),c.argTypes[0]? = some t→c.args.toList.map a.eval=[v]→(∃ u,(Builtin.cap_ #[t] o.type #[v]).run P w=.ok u w∧Rep μ h w y u)→Goes P o a μ h w y h:=by
  intro t v y ht hv hq next Q hn
  obtain ⟨u,h3,h4⟩:=hq
  have hlen:(Builtin.cap_ c.argTypes o.type (c.args.map a.eval)).run P w=.ok u w:=by
   rw [hmap,hv]
   have:Builtin.cap_ c.argTypes o.type #[v]=Builtin.cap_ #[t] o.type #[v]:=by simp [Builtin.cap_,ht]
   rw [this];exact h3
  have hrun:(execOp a.eval o).run P w=.ok (.value u) w:=by
   rw [builtin_run ho hc]
   simp only [pure_bind,invoke,builtin,Sem.run_bind,hlen,Result.andThen_ok,Sem.run_pure]
  unfold Oper.wp
  rw [hrun]
  exact hn u μ w hr (Ext.refl _ _ _) h4
 cases hcap:capH h (tk? P c.argTypes[0]?) (evs ev c.args.toList) with
 | none=>simp [hcap,val] at e
 | some y =>
  simp only [hcap,val,Option.some.injEq,Prod.mk.injEq] at e
  obtain ⟨rfl,rfl⟩:=e
  unfold capH at hcap
  split at hcap
  ·rename_i z b l htk hy
   rw [hy] at hargs
   obtain ⟨v,vr,hv,h1,h2⟩:=hargs
   have:vr=[]:=h2
   subst this
   cases ht:c.argTypes[0]? with
   | none=>simp [ht,tk?] at htk
   | some t =>
    simp only [ht,tk?] at htk
    obtain ⟨ye,j,hu,_⟩:=tk_slice htk
    split at hcap
    ·rename_i z1 wr1 hl
     simp only [Option.some.injEq] at hcap
     subst hcap
     refine fin t v _ ht hv ?_
     obtain ⟨z2,rs2,wr2,base,cap,hl2,_,rfl,hc2⟩:=h1
     rw [hl] at hl2
     simp only [Option.some.injEq,Blk.rows.injEq] at hl2
     obtain ⟨rfl,rfl,rfl⟩:=hl2
     have hc0:cap=0:=(hc2 rfl).2.1 rfl
     subst hc0
     exact ⟨.int .i64 0,by simp [Builtin.cap_,run_underlying hu,goInt],rfl⟩
    ·simp at hcap
  ·rename_i k y2 hy hne
   rw [hy] at hargs
   obtain ⟨v,vr,hv,h1,h2⟩:=hargs
   have:vr=[]:=h2
   subst this
   cases ht:c.argTypes[0]? with
   | none=>simp [ht,tk?,capV] at hcap
   | some t =>
    simp only [ht,tk?] at hcap
    exact fin t v _ ht hv (capV_sound (P:=P) (t:=t) hcap h1 o.type)
  ·simp at hcap
theorem copy_goes {c:Call} {ev:Operand→AV} {h':Heap} (hr:Rel μ h w) (he:EvRep μ h w ev a.eval) (ho:o.op=.call c) (hc:c.callee=.builtin .copy) (e:copyV P c.argTypes[0]? h (evs ev c.args.toList)=some (x,h')):Goes P o a μ h w x h':=by
 have hargs:=evs_rep he c.args.toList
 have hmap:c.args.map a.eval=(c.args.toList.map a.eval).toArray:=by apply Array.ext';simp
 unfold copyV at e
 split at e
 ·rename_i xs ys hxy
  rw [hxy] at hargs
  obtain ⟨v,vr,hv,hx,v2,vr2,hv2,hy,hnil⟩:=hargs
  have hnil':vr2=[]:=hnil
  subst hnil' hv2
  split at e
  ·rename_i t ht
   split at e
   ·rename_i z b hes
    refine goes_made ?_ (copyTo_sound (ty:=o.type) ht hes hr e hx hy)
    rw [builtin_run ho hc]
    simp only [pure_bind,invoke,builtin,Sem.run_bind,hmap,hv]
    rfl
   ·simp at e
  ·simp at e
 ·simp at e
theorem makeSlice_goes {t:TypeId} {n m:Operand} {ev:Operand→AV} {h':Heap} (hr:Rel μ h w) (he:EvRep μ h w ev a.eval) (ho:o.op=.makeSlice t n m) (e:makeSliceV P t h (ev n) (ev m)=some (x,h')):Goes P o a μ h w x h':=by
 refine goes_made ?_ (makeSlice_sound (P:=P) (t:=t) hr (he n) (he m) e)
 simp only [execOp,ho,Sem.run_bind]
 rfl
theorem box_goes {t:TypeId} {y:Operand} {ev:Operand→AV} {h':Heap} (hr:Rel μ h w) (he:EvRep μ h w ev a.eval) (ho:o.op=.box t y) (e:Go.Ab.alloc h (some (ev y))=some (x,h')):Goes P o a μ h w x h':=by
 refine alloc_goes (t:=t) hr e (he y) ?_
 simp only [execOp,ho,Instr.box,Sem.run_bind,newVar_run,Result.andThen_ok,Sem.run_pure]
theorem new_goes {t:TypeId} {h':Heap} (hr:Rel μ h w) (ho:o.op=.alloc t) (e:Go.Ab.alloc h (zv P t)=some (x,h')):Goes P o a μ h w x h':=by
 cases hz:zv P t with
 | none=>simp [hz,Go.Ab.alloc] at e
 | some y =>
  rw [hz] at e
  obtain ⟨i,z,h1,h2,rfl,h4⟩:=zv_spec (w:=w) hz
  refine alloc_goes (t:=t) (v:=z) hr e (Rep.pure _ _ (ofVal_rep z)) ?_
  simp only [execOp,ho,Instr.alloc,Sem.run_bind,h4,newVar_run,Result.andThen_ok,Sem.run_pure]
theorem tnew_goes {t:TypeId} {h':Heap} (hr:Rel μ h w) (ho:o.op=.alloc t) (e:tyP t (Go.Ab.alloc h (zv P t))=some (x,h')):Goes P o a μ h w x h':=by
 cases hz:zv P t with
 | none=>simp [hz,Go.Ab.alloc,tyP] at e
 | some y =>
  rw [hz] at e
  obtain ⟨i,z,h1,h2,rfl,h4⟩:=zv_spec (w:=w) hz
  refine talloc_goes (t:=t) (v:=z) hr e (Rep.pure _ _ (ofVal_rep z)) ?_
  simp only [execOp,ho,Instr.alloc,Sem.run_bind,h4,newVar_run,Result.andThen_ok,Sem.run_pure]
theorem allocT_goes {b:Bool} {t:TypeId} {h':Heap} (hr:Rel μ h w) (ho:o.op=.alloc t) (e:allocT b t (Go.Ab.alloc h (zv P t))=some (x,h')):Goes P o a μ h w x h':=by
 cases b with
 | true=>exact tnew_goes hr ho e
 | false=>exact new_goes hr ho e
end
section
variable {Bs:World→Prop}
variable {P:Program} {μ:Mp Bs} {h h':Heap} {w:World} {a:Act} {o:Oper} {x:AV}
theorem ints_locs:∀ {n:Nat} {l:List AV},intsB n l=true→locsL l=[]
 | 0,[],_=>rfl
 | 0,_::_,h=>by simp [intsB] at h
 | n+1,[],h=>by simp [intsB] at h
 | n+1,a::l,h=>by
  cases a with
  | int k x =>
   cases k with
   | i64=>simp only [intsB] at h;simp [locsL,locs,ints_locs h]
   | _=>simp [intsB] at h
  | _=>simp [intsB] at h
theorem keyOk_fit {kk:KK} {k:AV} (hk:keyOk kk k=true):keyFit kk k=true:=by
 unfold keyOk at hk
 split at hk
 ·rfl
 ·rfl
 ·exact hk
 ·simp at hk
theorem keyOk_pure {kk:KK} {k:AV} {vk:Value} (hk:keyOk kk k=true) (r:Rep μ h w k vk):PRep (Mut μ h) w k vk:=by
 unfold keyOk at hk
 split at hk
 ·exact r
 ·exact r
 ·exact Rep.none _ _ (ints_locs hk) r
 ·simp at hk
theorem mapSet_goes {t:TypeId} {m k v:Operand} {ev:Operand→AV} (hr:Rel μ h w) (he:EvRep μ h w ev a.eval) (ho:o.op=.mapUpdate t m k v∨o.op=.insert t m k v) (e:mapSet P t h (ev m) (ev k) (ev v)=some h'):Goes P o a μ h w .any h':=by
 have hs:execOp a.eval o=(do Instr.mapUpdate t (a.eval m) (a.eval k) (a.eval v);pure .skip):=by
  rcases ho with ho | ho<;>simp only [execOp,ho]
 unfold mapSet at e
 split at e
 ·rename_i l hx
  split at e
  ·rename_i kk el es hkk hl
   split at e
   ·rename_i hko
    split at e
    ·rename_i v' r hv hf
     simp only [Option.some.injEq] at e
     subst e
     obtain ⟨kt,hu,hkt⟩:=kk_spec hkk
     have hm:=he m
     rw [hx] at hm
     obtain ⟨es2,b,h1,h2,h2'⟩:=hm
     have hkr:=keyOk_pure hko (he k)
     have hvr:=purify_sound hr _ _ _ hv (he v)
     obtain ⟨b',ms,c,h3,h4,h5⟩:=hr.blk l _ hl
     have hbb:b'=b:=by rw [h2] at h3;simpa using h3.symm
     subst hbb
     have hg:(getObj b').run P w=.ok (.map ms.toArray c) w:=by simp [getObj,Sem.run,h4]
     have hck:=fun b=>checkKey_all hkt (keyOk_fit hko) (he k) b
     obtain ⟨r',h6,h7⟩:=findKey_all hkt (he k) h5 hf
     have hset:∀ ob:Obj,(setObj b' ob).run P w=.ok () { w with heap:=w.heap.setIfInBounds b' ob }:=fun ob=>MapKept.run_setObj_map ob h4
     have fin:∀ (ms':List MapEntry) (c':Nat),EntSet (Mut μ h) w (mapPut es (ev k) v' r) ms' →
       (Instr.mapUpdate t (a.eval m) (a.eval k) (a.eval v)).run P w=.ok () { w with heap:=w.heap.setIfInBounds b' (.map ms'.toArray c') }→Goes P o a μ h w .any (h.set l (.map (mapPut es (ev k) v' r))):=by
      intro ms' c' hE hrun
      have hrun':(execOp a.eval o).run P w=.ok .skip { w with heap:=w.heap.setIfInBounds b' (.map ms'.toArray c') }:=by
       rw [hs]
       simp [hrun]
      have hlt:b' < w.heap.size:=heap_lt h4
      have ex:Ext μ h w μ (h.set l (.map (mapPut es (ev k) v' r))) { w with heap:=w.heap.setIfInBounds b' (.map ms'.toArray c') }:=Ext.putMap hl h3 h4
      refine goes_skip hrun' (Rel.update hr hl h3 (fun b2 hb2=>?_) ex ?_) ex
      ·exact Array.getElem?_setIfInBounds_ne (fun e=>hb2 e.symm)
      ·exact ⟨b',ms',c',h3,by simp [hlt],hE.keep ex.keep⟩
     cases r with
     | none =>
      have:r'=none:=h7
      subst this
      have hE:EntSet (Mut μ h) w (mapPut es (ev k) v' none) (ms++[({ key:=a.eval k,val:=a.eval v,born:=c }:MapEntry)]):=EntSet.ins h5 hf hkr hvr .i64
      refine fin _ (c+1) hE ?_
      simp only [Instr.mapUpdate,h2',Sem.run_bind,run_underlying hu,Result.andThen_ok,hck,hg,h6,hset]
      simp
     | some p =>
      obtain ⟨i,y⟩:=p
      obtain ⟨j,me,h8,rfl,_,h9,_,ms',hp1,hp2,hp3⟩:=h7
      have hna:∀ n,kk≠.arr n:=fun n hn=>by
       subst hn
       obtain ⟨_,k',hk',hq⟩:=find_some es 0 hf
       simp [keyEq] at hq
      refine fin (ms.modify j fun e=>{ e with key:=a.eval k,val:=a.eval v }) c (EntSet.put h5 hf hkr hvr hp1 hp2 h8 hp3) ?_
      have h8':ms.toArray[j]? = some me:=by simpa using h8
      have hst:(Instr.keyThatStays me.key (a.eval k)).run P w=.ok (a.eval k) w:=by rw [h9];exact keyStays_run hko hna hkr
      simp only [Instr.mapUpdate,h2',Sem.run_bind,run_underlying hu,Result.andThen_ok,hck,hg,h6,h8',Option.map_some,Option.getD_some,hst,hset]
      simp
    ·simp at e
   ·simp at e
  ·simp at e
 ·simp at e
theorem makeMap_goes {t:TypeId} (hr:Rel μ h w) (ho:o.op=.makeMap t none):Goes P o a μ h w (.mp h.length) (h++[.map []]):=by
 intro next Q hn
 have hrun:(execOp a.eval o).run P w=.ok (.value (.map (some w.heap.size))) (w.alloc (.map #[] 0)):=by
  simp only [execOp,ho,Instr.makeMap]
  rfl
 unfold Oper.wp
 rw [hrun]
 have hp:=Ext.push hr (.map []) (some (.map #[] 0))
 refine hn _ (μ.set h.length (some w.heap.size)) (w.alloc (.map #[] 0)) (Rel.push hr (.map []) (some (.map #[] 0)) ?_) hp ?_
 ·exact ⟨w.heap.size,[],0,set_same _ _,alloc_new _,EntSet.empty⟩
 ·exact ⟨[],w.heap.size,by simp,set_same _ _,rfl⟩
theorem Ext.fillHole {l:Nat} (hr:Rel μ h w) (hl:h[l]? = some .hole) (k:Blk) (y:Obj):Ext μ h w (μ.set l (some w.heap.size)) (h.set l k) (w.alloc y) where
 out:=rfl
 still:=rfl
 os:=rfl
 tape:=rfl
 output:=rfl
 size:=by simp
 len:=by simp
 keep:=fun b o v hc hm=>by
  have hlt:=cell_lt hc
  refine ⟨?_,?_⟩
  ·simp only [World.cell?] at hc ⊢;rw [alloc_old _ hlt];exact hc
  ·rintro (ho | ⟨l',k',hl',hm',ho⟩)
   ·exact hm (.inl ho)
   ·by_cases hll:l=l'
    ·subst hll
     rw [set_same] at hm'
     simp at hm'
     omega
    ·rw [set_other _ (fun e=>hll e.symm)] at hm'
     rw [List.getElem?_set_ne hll] at hl'
     exact hm (.inr ⟨l',k',hl',hm',ho⟩)
 outside:=fun b hb ho=>by
  refine ⟨alloc_old _ hb,fun l' hl'=>?_⟩
  by_cases hll:l=l'
  ·subst hll
   rw [set_same]
   simp;omega
  ·rw [set_other _ (fun e=>hll e.symm)]
   exact ho l' (by simpa using hl')
 cells:=fun l' cs hl'=>by
  have hll:l≠l':=fun e=>by subst e;rw [hl] at hl';simp at hl'
  exact ⟨⟨cs,by rw [List.getElem?_set_ne hll];exact hl'⟩,set_other _ (fun e=>hll e.symm)⟩
 rows:=fun l' z rs wr hl'=>by
  have hll:l≠l':=fun e=>by subst e;rw [hl] at hl';simp at hl'
  exact ⟨rs,wr,by rw [List.getElem?_set_ne hll];exact hl',Nat.le_refl _,fun _=>set_other _ (fun e=>hll e.symm)⟩
 maps:=fun l' es hl'=>by
  have hll:l≠l':=fun e=>by subst e;rw [hl] at hl';simp at hl'
  exact ⟨⟨es,by rw [List.getElem?_set_ne hll];exact hl'⟩,set_other _ (fun e=>hll e.symm)⟩
 sizes:=fun b vs T hb=>⟨vs,hb.eq (alloc_old _ hb.lt),rfl⟩
theorem Rel.fillHole {l:Nat} {k:Blk} {y:Obj} (hr:Rel μ h w) (hl:h[l]? = some .hole) (hk:BlkRel (μ.set l (some w.heap.size)) (h.set l k) (w.alloc y) l k):Rel (μ.set l (some w.heap.size)) (h.set l k) (w.alloc y) where
 inj:=fun l1 l2 b hl1 hl2 hm1 hm2=>by
  simp only [List.length_set] at hl1 hl2
  by_cases h1:l1=l<;>by_cases h2:l2=l
  ·omega
  ·subst h1
   rw [set_same] at hm1
   rw [set_other _ h2] at hm2
   have:=hr.mapped hl2 hm2
   simp at hm1
   omega
  ·subst h2
   rw [set_same] at hm2
   rw [set_other _ h1] at hm1
   have:=hr.mapped hl1 hm1
   simp at hm2
   omega
  ·rw [set_other _ h1] at hm1
   rw [set_other _ h2] at hm2
   exact hr.inj l1 l2 b hl1 hl2 hm1 hm2
 blk:=fun l' k' hl'=>by
  have hll:l < h.length:=(List.getElem?_eq_some_iff.1 hl).1
  have e:=Ext.fillHole hr hl k y
  by_cases h1:l=l'
  ·subst h1
   rw [List.getElem?_set_self hll] at hl'
   simp only [Option.some.injEq] at hl'
   subst hl'
   exact hk
  ·rw [List.getElem?_set_ne h1] at hl'
   have h1':l'≠l:=fun e=>h1 e.symm
   have hsame:∀ b,b < w.heap.size→(w.alloc y).heap[b]? = w.heap[b]? := fun b hb=>alloc_old _ hb
   have:=hr.blk l' k' hl'
   cases k' with
   | cells cs =>
    obtain ⟨b,vs,T,h3,h4,h5,h6⟩:=this
    exact ⟨b,vs,T,by rw [set_other _ h1'];exact h3,by rw [hsame b (heap_lt h4)];exact h4,h5,RepL.ext e cs vs h6⟩
   | rows z rs wr =>
    rcases this with ⟨h3,h4⟩ | ⟨b,vs,T,h3,h4,h5,h6⟩
    ·exact .inl ⟨h3,by rw [set_other _ h1'];exact h4⟩
    ·exact .inr ⟨b,vs,T,by rw [set_other _ h1'];exact h3,h4.eq (hsame b h4.lt),h5,h6.ext e⟩
   | hole =>
    show (μ.set l (some w.heap.size)) l'=none
    rw [set_other _ h1'];exact this
   | map es =>
    obtain ⟨b,ms,c,h3,h4,h5⟩:=this
    exact ⟨b,ms,c,by rw [set_other _ h1'];exact h3,by rw [hsame b (heap_lt h4)];exact h4,h5.keep e.keep⟩
 apart:=fun l' b o hl' hm ho=>by
  by_cases h1:l'=l
  ·subst h1
   rw [set_same] at hm
   have:=hr.old b o ho
   simp at hm;omega
  ·rw [set_other _ h1] at hm
   exact hr.apart l' b o (by simpa using hl') hm ho
 old:=fun b o ho=>Nat.lt_of_lt_of_le (hr.old b o ho) (Ext.fillHole hr hl k y).size
 still:=(hr.carry (Ext.fillHole hr hl k y)).1
 base:=(hr.carry (Ext.fillHole hr hl k y)).2
theorem fill_goes {t:TypeId} {l:Nat} {v:Value} {y:AV} (hr:Rel μ h w) (e:fill h l (some y)=some (x,h')) (hy:Rep μ h w y v)
  (hrun:(execOp a.eval o).run P w=.ok (.value (.pointer (some ⟨w.heap.size,0,none⟩))) (w.alloc (.cells v.cells t))):Goes P o a μ h w x h':=by
 simp only [fill] at e
 split at e
 ·rename_i cs hcs hl
  simp only [Option.some.injEq,Prod.mk.injEq] at e
  obtain ⟨rfl,rfl⟩:=e
  obtain ⟨hs,hlr⟩:=cellsOf_sound hcs hy
  intro next Q hn
  unfold Oper.wp
  rw [hrun]
  have hll:l < h.length:=(List.getElem?_eq_some_iff.1 hl).1
  have hp:=Ext.fillHole hr hl (.cells cs) (.cells v.cells t)
  refine hn _ (μ.set l (some w.heap.size)) (w.alloc (.cells v.cells t)) (Rel.fillHole hr hl ?_) hp ?_
  ·exact ⟨w.heap.size,v.cells.toList,t,set_same _ _,by rw [Array.toArray_toList];exact alloc_new _,hs,RepL.ext hp cs _ hlr⟩
  ·exact ⟨cs,w.heap.size,by simp [hll],set_same _ _,rfl⟩
 ·simp at e
theorem stepA_goes {C:Cfg} {l:Nat} {ev:Operand→AV} (hr:Rel μ h w) (he:EvRep μ h w ev a.eval) (e:stepA C ev h l o.op=some (x,h')):Goes C.P o a μ h w x h':=by
 unfold stepA at e
 split at e
 ·rename_i t ho
  cases hz:zv C.P t with
  | none=>rw [hz] at e;simp [fill] at e
  | some y =>
   rw [hz] at e
   obtain ⟨i,z,_,_,h3,h4⟩:=zv_spec (w:=w) hz
   refine fill_goes (t:=t) (v:=z) hr e (by rw [h3];exact Rep.pure _ _ (ofVal_rep z)) ?_
   simp only [execOp,ho,Instr.alloc,Sem.run_bind,h4,newVar_run,Result.andThen_ok,Sem.run_pure]
 ·rename_i t y ho
  refine fill_goes (t:=t) (v:=a.eval y) hr e (he y) ?_
  simp only [execOp,ho,Instr.box,Sem.run_bind,newVar_run,Result.andThen_ok,Sem.run_pure]
 ·rename_i t ho
  unfold fillM at e
  split at e
  ·rename_i hl
   simp only [Option.some.injEq,Prod.mk.injEq] at e
   obtain ⟨rfl,rfl⟩:=e
   intro next Q hn
   have hrun:(execOp a.eval o).run C.P w=.ok (.value (.map (some w.heap.size))) (w.alloc (.map #[] 0)):=by
    simp only [execOp,ho,Instr.makeMap]
    rfl
   unfold Oper.wp
   rw [hrun]
   have hll:l < h.length:=(List.getElem?_eq_some_iff.1 hl).1
   have hp:=Ext.fillHole hr hl (.map []) (.map #[] 0)
   refine hn _ (μ.set l (some w.heap.size)) (w.alloc (.map #[] 0)) (Rel.fillHole hr hl ?_) hp ?_
   ·exact ⟨w.heap.size,[],0,set_same _ _,alloc_new _,EntSet.empty⟩
   ·exact ⟨[],w.heap.size,by simp [hll],set_same _ _,rfl⟩
  ·simp at e
 ·rename_i t n m ho
  unfold fillS at e
  split at e
  ·rename_i l0 k b heq
   split at e
   ·rename_i hl
    simp only [Option.some.injEq,Prod.mk.injEq] at e
    obtain ⟨rfl,rfl⟩:=e
    obtain ⟨z,rs,arr,el,h1,h2,hrun,hsz,hin⟩:=makeSlice_core (he n) (he m) heq
    simp only [List.length_nil,AV.own.injEq,List.nil_append,List.cons.injEq,and_true] at h1 h2
    obtain ⟨_,rfl⟩:=h1
    subst h2
    have hll:l < h.length:=(List.getElem?_eq_some_iff.1 hl).1
    have ex:=Ext.fillHole hr hl (.rows z rs true) (.cells arr el)
    have hheap:(w.alloc (.cells arr el)).heap[w.heap.size]? = some (.cells arr el (0,0)):=alloc_new _
    refine goes_made (s:=Instr.makeSlice t (a.eval n) (a.eval m)) ?_ ⟨_,μ.set l (some w.heap.size),w.alloc (.cells arr el),hrun,Rel.fillHole hr hl ?_,ex,?_⟩
    ·simp only [execOp,ho,Sem.run_bind]
     rfl
    ·exact .inr ⟨w.heap.size,arr,el,set_same _ _,.free hheap,by simp [hsz],(hin.keep ex.keep).some⟩
    ·exact ⟨z,rs,true,_,rs.length,by simp [hll],by simp,rfl,fun _=>⟨Nat.le_refl _,fun h00=>h00,.inr ⟨w.heap.size,arr,el,rfl,set_same _ _,⟨_,hheap⟩,by rw [hsz];exact Nat.le_refl _⟩⟩⟩
   ·simp at e
  ·simp at e
 ·simp at e
end
section
variable {Bs:World→Prop}
variable {μ μ':Mp Bs} {h h':Heap} {w:World} {σ:Nat→Nat}
theorem renR_at (σ:Nat→Nat):∀ (rs:List (List AV)) (i:Nat),(renR σ rs)[i]? = rs[i]?.map (renL σ)
 | [],i=>by simp [renR]
 | r::rs,0=>by simp [renR]
 | r::rs,i+1=>by simp only [renR,List.getElem?_cons_succ];exact renR_at σ rs i
theorem renR_len (σ:Nat→Nat):∀ rs:List (List AV),(renR σ rs).length=rs.length
 | []=>rfl
 | r::rs=>by simp [renR,renR_len σ rs]
theorem Blank.ren (σ:Nat→Nat):∀ {rs:List (List AV)},Blank rs→Blank (renR σ rs)
 | [],_=>Blank.nil
 | r::rs,b=>fun row hrow=>by
  simp only [renR,List.mem_cons] at hrow
  rcases hrow with rfl | hrow
  ·rw [b r (by simp)];rfl
  ·exact Blank.ren σ (rs:=rs) (fun row h=>b row (List.mem_cons_of_mem _ h)) row hrow
theorem renL_at (σ:Nat→Nat):∀ (l:List AV) (i:Nat),(renL σ l)[i]? = l[i]?.map (ren σ)
 | [],i=>by simp [renL]
 | a::l,0=>by simp [renL]
 | a::l,i+1=>by simp only [renL,List.getElem?_cons_succ];exact renL_at σ l i
theorem renL_length (σ:Nat→Nat):∀ l:List AV,(renL σ l).length=l.length
 | []=>rfl
 | a::l=>by simp [renL,renL_length σ l]
theorem locsL_in:∀ {l:List AV} {a:AV} {i:Nat},a∈l→i∈locs a→i∈locsL l
 | b::l,a,i,ha,hi=>by
  show i∈locs b++locsL l
  rcases List.mem_cons.1 ha with rfl | ha
  ·exact List.mem_append_left _ hi
  ·exact List.mem_append_right _ (locsL_in ha hi)
theorem locsR_in:∀ {rs:List (List AV)} {row:List AV} {i:Nat},row∈rs→i∈locsL row→i∈locsR rs
 | b::l,a,i,ha,hi=>by
  show i∈locsL b++locsR l
  rcases List.mem_cons.1 ha with rfl | ha
  ·exact List.mem_append_left _ hi
  ·exact List.mem_append_right _ (locsR_in ha hi)
def KeepsAt (μ:Mp Bs) (h:Heap) (μ':Mp Bs) (h':Heap) (σ:Nat→Nat) (l:Nat):Prop :=
 ∀ k,h[l]? = some k→h'[σ l]? = some (renB σ k)∧μ' (σ l)=μ l
theorem OwnRep.ren {l n:Nat} {v:Value} (hk:KeepsAt μ h μ' h' σ l) (r:OwnRep μ h w l n v):OwnRep μ' h' w (σ l) n v:=by
 obtain ⟨z,rs,wr,base,cap,hl,hn,hs,hv⟩:=r
 obtain ⟨h1,h2⟩:=hk _ hl
 refine ⟨z,renR σ rs,wr,base,cap,h1,by rw [renR_len];exact hn,hs,fun e=>?_⟩
 rw [renR_len] at e
 obtain ⟨h3,h4,h5⟩:=hv e
 refine ⟨h3,h4,?_⟩
 rcases h5 with h5 | ⟨b,vs,T,hb,hm,hw,hz⟩
 ·exact .inl h5
 ·exact .inr ⟨b,vs,T,hb,h2.trans hm,hw,hz⟩
theorem TownRep.ren {t l n:Nat} {v:Value} (hk:KeepsAt μ h μ' h' σ l) (r:TownRep μ h w t l n v):TownRep μ' h' w t (σ l) n v:=by
 obtain ⟨z,rs,wr,base,cap,hl,hn,hs,hv⟩:=r
 obtain ⟨h1,h2⟩:=hk _ hl
 refine ⟨z,renR σ rs,wr,base,cap,h1,by rw [renR_len];exact hn,hs,fun e=>?_⟩
 rw [renR_len] at e
 obtain ⟨h3,h4,h5⟩:=hv e
 refine ⟨h3,h4,?_⟩
 rcases h5 with h5 | ⟨b,vs,hb,hm,hw,hz⟩
 ·exact .inl h5
 ·exact .inr ⟨b,vs,hb,h2.trans hm,hw,hz⟩
theorem VwRep.ren {l n a m:Nat} {v:Value} (hk:KeepsAt μ h μ' h' σ l) (r:VwRep μ h w l n a m v):VwRep μ' h' w (σ l) n a m v:=by
 obtain ⟨z,rs,wr,base,cap,hl,hn,hs,hv⟩:=r
 obtain ⟨h1,h2⟩:=hk _ hl
 refine ⟨z,renR σ rs,wr,base,cap,h1,by rw [renR_len];exact hn,hs,fun e=>?_⟩
 rw [renR_len] at e
 obtain ⟨h3,h4,h5⟩:=hv e
 refine ⟨h3,h4,fun ha=>?_⟩
 obtain ⟨b,vs,T,hb,hm,hw,hz⟩:=h5 ha
 exact ⟨b,vs,T,hb,h2.trans hm,hw,hz⟩
theorem TptrRep.ren {t l o:Nat} {v:Value} (hk:KeepsAt μ h μ' h' σ l) (r:TptrRep μ h w t l o v):TptrRep μ' h' w t (σ l) o v:=by
 obtain ⟨cs,b,hl,hm,hv⟩:=r
 obtain ⟨h1,h2⟩:=hk _ hl
 exact ⟨renL σ cs,b,h1,h2.trans hm,hv⟩
theorem OptrRep.ren {l n i o:Nat} {v:Value} (hk:KeepsAt μ h μ' h' σ l) (r:OptrRep μ h l n i o v):OptrRep μ' h' (σ l) n i o v:=by
 obtain ⟨z,rs,wr,b,hl,hn,hs,hv⟩:=r
 obtain ⟨h1,h2⟩:=hk _ hl
 exact ⟨z,renR σ rs,wr,b,h1,by rw [renR_len];exact hn,hs,fun e=>h2.trans (hv (by rw [renR_len] at e;exact e))⟩
theorem MpRep.ren {l:Nat} {v:Value} (hk:KeepsAt μ h μ' h' σ l) (r:MpRep μ h l v):MpRep μ' h' (σ l) v:=by
 obtain ⟨es,b,hl,hm,hv⟩:=r
 obtain ⟨h1,h2⟩:=hk _ hl
 exact ⟨es,b,h1,h2.trans hm,hv⟩
theorem PtrRep.ren {l o:Nat} {v:Value} (hk:KeepsAt μ h μ' h' σ l) (r:PtrRep μ h l o v):PtrRep μ' h' (σ l) o v:=by
 obtain ⟨cs,b,hl,hm,hv⟩:=r
 obtain ⟨h1,h2⟩:=hk _ hl
 exact ⟨renL σ cs,b,h1,h2.trans hm,hv⟩
mutual
theorem Rep.ren (hM:∀ b o,Mut μ' h' b o→Mut μ h b o):∀ (a:AV) (v:Value),(∀ l,l∈locs a→KeepsAt μ h μ' h' σ l)→Rep μ h w a v→Rep μ' h' w (Go.Ab.ren σ a) v
 | .agg cs,_,hk,r=>by
  obtain ⟨vs,hv,r⟩:=r
  exact ⟨vs,hv,RepL.ren hM cs vs hk r⟩
 | .tup cs,_,hk,r=>by
  obtain ⟨vs,hv,r⟩:=r
  exact ⟨vs,hv,RepL.ren hM cs vs hk r⟩
 | .fn _ cs,_,hk,r=>by
  obtain ⟨vs,hv,r⟩:=r
  exact ⟨vs,hv,RepL.ren hM cs vs hk r⟩
 | .bnd _ cs,_,hk,r=>by
  obtain ⟨vs,hv,r⟩:=r
  exact ⟨vs,hv,RepL.ren hM cs vs hk r⟩
 | .iface _ a,_,hk,r=>by
  obtain ⟨x,hv,r⟩:=r
  exact ⟨x,hv,Rep.ren hM a x hk r⟩
 | .ptr l _,_,hk,r=>PtrRep.ren (hk l (by simp [locs])) r
 | .own l _,_,hk,r=>OwnRep.ren (hk l (by simp [locs])) r
 | .optr l _ _ _,_,hk,r=>OptrRep.ren (hk l (by simp [locs])) r
 | .mp l,_,hk,r=>MpRep.ren (hk l (by simp [locs])) r
 | .tptr _ l _,_,hk,r=>TptrRep.ren (hk l (by simp [locs])) r
 | .town _ l _,_,hk,r=>TownRep.ren (hk l (by simp [locs])) r
 | .vw l _ _ _,_,hk,r=>VwRep.ren (hk l (by simp [locs])) r
 | .int _ _,_,_,r=>r
 | .bool _,_,_,r=>r
 | .str _,_,_,r=>r
 | .nilp,_,_,r=>r
 | .nilf,_,_,r=>r
 | .nili,_,_,r=>r
 | .emp _,_,_,r=>r
 | .nilm,_,_,r=>r
 | .nils,_,_,r=>r
 | .rows rs,v,_,r=>PRep.keep (fun b o v hc hm=>⟨hc,fun hx=>hm (hM b o hx)⟩) (.rows rs) v r
 | .lit rs,v,_,r=>PRep.keep (fun b o v hc hm=>⟨hc,fun hx=>hm (hM b o hx)⟩) (.lit rs) v r
 | .rptr row o,v,_,r=>PRep.keep (fun b o v hc hm=>⟨hc,fun hx=>hm (hM b o hx)⟩) (.rptr row o) v r
 | .any,_,_,r=>r
theorem RepL.ren (hM:∀ b o,Mut μ' h' b o→Mut μ h b o):∀ (l:List AV) (vs:List Value),(∀ i,i∈locsL l→KeepsAt μ h μ' h' σ i)→RepL μ h w l vs→RepL μ' h' w (renL σ l) vs
 | [],_,_,r=>r
 | a::r,_,hk,x=>by
  obtain ⟨v,vr,hv,h1,h2⟩:=x
  exact ⟨v,vr,hv,Rep.ren hM a v (fun l hl=>hk l (by simp [locsL,hl])) h1,RepL.ren hM r vr (fun l hl=>hk l (by simp [locsL,hl])) h2⟩
end
mutual
/-- Places of a value are places of the memory. -/
theorem Rep.locs_lt:∀ (a:AV) (v:Value),Rep μ h w a v→∀ l,l∈locs a→l < h.length
 | .agg cs,_,r,l,hl=>by
  obtain ⟨vs,hv,r⟩:=r
  exact RepL.locs_lt cs vs r l hl
 | .tup cs,_,r,l,hl=>by
  obtain ⟨vs,hv,r⟩:=r
  exact RepL.locs_lt cs vs r l hl
 | .fn _ cs,_,r,l,hl=>by
  obtain ⟨vs,hv,r⟩:=r
  exact RepL.locs_lt cs vs r l hl
 | .bnd _ cs,_,r,l,hl=>by
  obtain ⟨vs,hv,r⟩:=r
  exact RepL.locs_lt cs vs r l hl
 | .iface _ a,_,r,l,hl=>by
  obtain ⟨x,hv,r⟩:=r
  exact Rep.locs_lt a x r l hl
 | .ptr _ _,_,r,l,hl=>by
  obtain ⟨cs,b,h1,_⟩:=r
  simp only [locs,List.mem_singleton] at hl
  subst hl
  exact (List.getElem?_eq_some_iff.1 h1).1
 | .own _ _,_,r,l,hl=>by
  obtain ⟨_,_,_,_,_,h1,_⟩:=r
  simp only [locs,List.mem_singleton] at hl
  subst hl
  exact (List.getElem?_eq_some_iff.1 h1).1
 | .optr _ _ _ _,_,r,l,hl=>by
  obtain ⟨_,_,_,_,h1,_⟩:=r
  simp only [locs,List.mem_singleton] at hl
  subst hl
  exact (List.getElem?_eq_some_iff.1 h1).1
 | .mp _,_,r,l,hl=>by
  obtain ⟨_,_,h1,_⟩:=r
  simp only [locs,List.mem_singleton] at hl
  subst hl
  exact (List.getElem?_eq_some_iff.1 h1).1
 | .tptr _ _ _,_,r,l,hl=>by
  obtain ⟨_,_,h1,_⟩:=r
  simp only [locs,List.mem_singleton] at hl
  subst hl
  exact (List.getElem?_eq_some_iff.1 h1).1
 | .town _ _ _,_,r,l,hl=>by
  obtain ⟨_,_,_,_,_,h1,_⟩:=r
  simp only [locs,List.mem_singleton] at hl
  subst hl
  exact (List.getElem?_eq_some_iff.1 h1).1
 | .vw _ _ _ _,_,r,l,hl=>by
  obtain ⟨_,_,_,_,_,h1,_⟩:=r
  simp only [locs,List.mem_singleton] at hl
  subst hl
  exact (List.getElem?_eq_some_iff.1 h1).1
 | .int _ _,_,_,_,hl=>by simp [locs] at hl
 | .bool _,_,_,_,hl=>by simp [locs] at hl
 | .str _,_,_,_,hl=>by simp [locs] at hl
 | .nilp,_,_,_,hl=>by simp [locs] at hl
 | .nilf,_,_,_,hl=>by simp [locs] at hl
 | .nili,_,_,_,hl=>by simp [locs] at hl
 | .emp _,_,_,_,hl=>by simp [locs] at hl
 | .nilm,_,_,_,hl=>by simp [locs] at hl
 | .nils,_,_,_,hl=>by simp [locs] at hl
 | .rows _,_,_,_,hl=>by simp [locs] at hl
 | .lit _,_,_,_,hl=>by simp [locs] at hl
 | .rptr _ _,_,_,_,hl=>by simp [locs] at hl
 | .any,_,_,_,hl=>by simp [locs] at hl
theorem RepL.locs_lt:∀ (c:List AV) (vs:List Value),RepL μ h w c vs→∀ l,l∈locsL c→l < h.length
 | [],_,_,_,hl=>by simp [locsL] at hl
 | a::r,_,x,l,hl=>by
  obtain ⟨v,vr,hv,h1,h2⟩:=x
  simp only [locsL,List.mem_append] at hl
  rcases hl with hl | hl
  ·exact Rep.locs_lt a v h1 l hl
  ·exact RepL.locs_lt r vr h2 l hl
end
theorem posOf_lt:∀ (ls:List Nat) (l:Nat),posOf ls l < ls.length↔l∈ls
 | [],l=>by simp [posOf]
 | x::r,l=>by
  by_cases hx:x=l
  ·simp [posOf,hx]
  ·have:=posOf_lt r l
   simp only [posOf,if_neg hx,List.length_cons,List.mem_cons]
   constructor
   ·intro h;exact .inr (this.1 (by omega))
   ·rintro (h | h)
    ·exact absurd h.symm hx
    ·have:=this.2 h;omega
theorem posOf_at:∀ (ls:List Nat) (l:Nat),l∈ls→ls[posOf ls l]? = some l
 | [],l,h=>by simp at h
 | x::r,l,h=>by
  by_cases hx:x=l
  ·simp [posOf,hx]
  ·simp only [posOf,if_neg hx,List.getElem?_cons_succ]
   refine posOf_at r l ?_
   rcases List.mem_cons.1 h with h | h
   ·exact absurd h.symm hx
   ·exact h
theorem posOf_nth:∀ (ls:List Nat) (i l:Nat),ls.Nodup→ls[i]? = some l→posOf ls l=i
 | [],i,l,_,h=>by simp at h
 | x::r,0,l,_,h=>by
  simp only [List.getElem?_cons_zero,Option.some.injEq] at h
  simp [posOf,h]
 | x::r,i+1,l,hn,h=>by
  simp only [List.getElem?_cons_succ] at h
  have hne:x≠l:=fun e=>by
   subst e
   exact (List.nodup_cons.1 hn).1 (List.mem_of_getElem? h)
  simp only [posOf,if_neg hne]
  rw [posOf_nth r i l (List.nodup_cons.1 hn).2 h]
theorem reach_nodup (h:Heap):∀ (n:Nat) (l s:List Nat),s.Nodup→(reach h n l s).Nodup
 | 0,l,s,hs=>by simpa [reach] using hs
 | n+1,[],s,hs=>by simpa [reach] using hs
 | n+1,l::r,s,hs=>by
  simp only [reach]
  split
  ·exact reach_nodup h n r s hs
  ·rename_i hc
   have hl:l∉s:=by simpa using hc
   have:(s++[l]).Nodup:=by
    rw [List.nodup_append]
    refine ⟨hs,by simp,fun a ha b hb=>?_⟩
    simp only [List.mem_singleton] at hb
    subst hb
    exact fun e=>hl (e▸ha)
   split
   ·exact reach_nodup h n _ _ this
   ·exact reach_nodup h n _ _ this
theorem sub_at (h:Heap) (σ:Nat→Nat):∀ (ls:List Nat) (hs:Heap),sub h σ ls=some hs→hs.length=ls.length∧∀ (i l:Nat),ls[i]? = some l→∃ b:Blk,h[l]? = some b∧hs[i]? = some (renB σ b)
 | [],hs,e=>by
  simp only [sub,Option.some.injEq] at e
  subst e
  exact ⟨rfl,fun i l hl=>by simp at hl⟩
 | x::r,hs,e=>by
  simp only [sub] at e
  split at e
  ·rename_i b hb
   split at e
   ·rename_i hs' he
    simp only [Option.some.injEq] at e
    subst e
    obtain ⟨h1,h2⟩:=sub_at h σ r hs' he
    refine ⟨by simp [h1],fun i l hl=>?_⟩
    cases i with
    | zero =>
     simp only [List.getElem?_cons_zero,Option.some.injEq] at hl
     subst hl
     exact ⟨b,hb,by simp⟩
    | succ i =>
     simp only [List.getElem?_cons_succ] at hl ⊢
     exact h2 i l hl
   ·simp at e
  ·simp at e
theorem under_mem {n:Nat}:∀ {l:List Nat},under n l=true→∀ i,i∈l→i < n
 | [],_,i,hi=>by simp at hi
 | x::r,e,i,hi=>by
  simp only [under,Bool.and_eq_true,decide_eq_true_eq] at e
  rcases List.mem_cons.1 hi with rfl | hi
  ·exact e.1
  ·exact under_mem e.2 i hi
theorem locsH_at:∀ {h:Heap} {i:Nat} {b:Blk},h[i]? = some b→∀ l,l∈locsB b→l∈locsH h
 | [],_,_,e,_,_=>by simp at e
 | x::r,0,b,e,l,hl=>by
  simp only [List.getElem?_cons_zero,Option.some.injEq] at e
  subst e
  simp [locsH,hl]
 | x::r,i+1,b,e,l,hl=>by
  simp only [List.getElem?_cons_succ] at e
  have:=locsH_at e l hl
  simp [locsH,this]
mutual
theorem locs_ren (σ:Nat→Nat):∀ a:AV,locs (ren σ a)=(locs a).map σ
 | .agg cs=>by simp only [ren,locs];exact locsL_ren σ cs
 | .tup cs=>by simp only [ren,locs];exact locsL_ren σ cs
 | .fn _ cs=>by simp only [ren,locs];exact locsL_ren σ cs
 | .bnd _ cs=>by simp only [ren,locs];exact locsL_ren σ cs
 | .iface _ a=>by simp only [ren,locs];exact locs_ren σ a
 | .ptr _ _=>by simp [ren,locs]
 | .own _ _=>by simp [ren,locs]
 | .optr _ _ _ _=>by simp [ren,locs]
 | .mp _=>rfl
 | .tptr _ _ _=>by simp [ren,locs]
 | .town _ _ _=>by simp [ren,locs]
 | .vw _ _ _ _=>by simp [ren,locs]
 | .int _ _=>by simp [ren,locs]
 | .bool _=>by simp [ren,locs]
 | .str _=>by simp [ren,locs]
 | .nilp=>by simp [ren,locs]
 | .nilf=>by simp [ren,locs]
 | .nili=>by simp [ren,locs]
 | .emp _=>by simp [ren,locs]
 | .nilm=>by simp [ren,locs]
 | .nils=>by simp [ren,locs]
 | .rows _=>by simp [ren,locs]
 | .lit _=>by simp [ren,locs]
 | .rptr _ _=>by simp [ren,locs]
 | .any=>by simp [ren,locs]
theorem locsL_ren (σ:Nat→Nat):∀ l:List AV,locsL (renL σ l)=(locsL l).map σ
 | []=>by simp [renL,locsL]
 | a::r=>by simp only [renL,locsL,List.map_append,locs_ren σ a,locsL_ren σ r]
end
theorem singles_ren (σ:Nat→Nat):∀ l:List AV,singles (renL σ l)=singles l
 | []=>rfl
 | a::r=>by
  have:=singles_ren σ r
  cases a<;>simp [renL,ren,singles,single,this]
end
section
variable {Bs:World→Prop}
theorem locsR_ren (σ:Nat→Nat):∀ rs:List (List AV),locsR (renR σ rs)=(locsR rs).map σ
 | []=>rfl
 | r::rs=>by
  show locsL (renL σ r)++locsR (renR σ rs)=(locsL r++locsR rs).map σ
  rw [locsL_ren,locsR_ren σ rs,List.map_append]
theorem RowsN.ren {Bs:World→Prop} {μ μ':Mp Bs} {h h':Heap} {w:World} {σ:Nat→Nat} {z:Nat} {rs:List (List AV)} {vs:Array Value} (F:∀ (a:AV) (v:Value),(∀ i,i∈locs a→i∈locsR rs)→Rep μ h w a v→Rep μ' h' w (Go.Ab.ren σ a) v)
  (r:RowsN μ h w z rs vs):RowsN μ' h' w z (renR σ rs) vs:=by
 intro i row hrow
 rw [renR_at] at hrow
 cases hr:rs[i]? with
 | none=>rw [hr] at hrow;simp at hrow
 | some row0 =>
  rw [hr] at hrow
  simp only [Option.map_some,Option.some.injEq] at hrow
  subst hrow
  obtain ⟨h1,h2,h3⟩:=r i row0 hr
  refine ⟨by rw [renL_length];exact h1,by rw [singles_ren];exact h2,fun c a ha=>?_⟩
  rw [renL_at] at ha
  cases hc:row0[c]? with
  | none=>rw [hc] at ha;simp at ha
  | some a0 =>
   rw [hc] at ha
   simp only [Option.map_some,Option.some.injEq] at ha
   subst ha
   obtain ⟨v,h4,h5⟩:=h3 c a0 hc
   exact ⟨v,h4,F a0 v (fun i hi=>locsR_in (List.mem_of_getElem? hr) (locsL_in (List.mem_of_getElem? hc) hi)) h5⟩
def partMp (μ:Mp Bs) (h:Heap) (ls:List Nat):Mp Bs :=
 ⟨fun i=>match ls[i]? with
  | some l=>μ l
  | none=>none,fun b o=>μ.out b o∨∃ (l:Nat) (k:Blk),l∉ls∧h[l]? = some k∧μ l=some b∧k.open_ o,μ.still⟩
structure IsPart (h:Heap) (ls:List Nat) (hs:Heap):Prop where
 nodup:ls.Nodup
 len:hs.length=ls.length
 there:∀ (i l:Nat),ls[i]? = some l→∃ b:Blk,h[l]? = some b∧hs[i]? = some (renB (posOf ls) b)
 closed:∀ l,l∈locsH hs→l < ls.length
structure Joins (h:Heap) (ls:List Nat) (h2 h3:Heap):Prop where
 le:ls.length≤h2.length
 len:h3.length=h.length+(h2.length - ls.length)
 old:∀ l,l < h.length→l∉ls→h3[l]? = h[l]?
 new:∀ (i:Nat) (b:Blk),h2[i]? = some b→h3[outer ls h.length i]? = some (renB (outer ls h.length) b)
def joinMp (μ:Mp Bs) (h:Heap) (ls:List Nat) (μ2:Mp Bs):Mp Bs :=
 ⟨fun l=>if l < h.length then (if l∈ls then μ2 (posOf ls l) else μ l) else μ2 (l - h.length+ls.length),μ.out,μ.still⟩
theorem open_ren (σ:Nat→Nat) (k:Blk) (o:Nat):(renB σ k).open_ o↔k.open_ o:=by
 cases k with
 | rows z rs wr=>show (wr=true∨z*(renR σ rs).length≤o)↔_;rw [renR_len];exact Iff.rfl
 | _=>exact Iff.rfl
end
section
variable {Bs:World→Prop}
variable {P:Program} {μ μ2:Mp Bs} {h hs h2 h3:Heap} {w w':World} {ls:List Nat}
theorem IsPart.lt (hp:IsPart h ls hs) {l:Nat} (hl:l∈ls):l < h.length:=by
 obtain ⟨b,h1,_⟩:=hp.there _ l (posOf_at ls l hl)
 exact (List.getElem?_eq_some_iff.1 h1).1
theorem part_at {i l:Nat} (e:ls[i]? = some l):(partMp μ h ls) i=μ l:=by simp only [partMp,e]
theorem IsPart.nth (hp:IsPart h ls hs) {i:Nat} (hi:i < hs.length):∃ l,ls[i]? = some l∧l∈ls:=by
 rw [hp.len] at hi
 exact ⟨ls[i],List.getElem?_eq_getElem hi,List.getElem_mem hi⟩
theorem IsPart.keeps (hp:IsPart h ls hs) {l:Nat} (hl:l∈ls):KeepsAt μ h (partMp μ h ls) hs (posOf ls) l:=fun k hk=>by
 have hat:=posOf_at ls l hl
 obtain ⟨b,h1,h2⟩:=hp.there _ l hat
 rw [hk] at h1
 simp only [Option.some.injEq] at h1
 subst h1
 exact ⟨h2,part_at hat⟩
theorem IsPart.mut (hp:IsPart h ls hs) {b o:Nat}:Mut (partMp μ h ls) hs b o↔Mut μ h b o:=by
 constructor
 ·rintro ((ho | ⟨l,k,_,hl,hm,ho⟩) | ⟨i,k,hi,hm,ho⟩)
  ·exact .inl ho
  ·exact .inr ⟨l,k,hl,hm,ho⟩
  ·obtain ⟨l,e,_⟩:=hp.nth (List.getElem?_eq_some_iff.1 hi).1
   obtain ⟨b',h1,h2⟩:=hp.there i l e
   rw [hi] at h2
   simp only [Option.some.injEq] at h2
   subst h2
   rw [part_at e] at hm
   exact .inr ⟨l,b',h1,hm,(open_ren _ _ _).1 ho⟩
 ·rintro (ho | ⟨l,k,hl,hm,ho⟩)
  ·exact .inl (.inl ho)
  ·by_cases hin:l∈ls
   ·have hat:=posOf_at ls l hin
    obtain ⟨b',h1,h2⟩:=hp.there _ l hat
    rw [hl] at h1
    simp only [Option.some.injEq] at h1
    subst h1
    exact .inr ⟨_,_,h2,by rw [part_at hat];exact hm,(open_ren _ _ _).2 ho⟩
   ·exact .inl (.inr ⟨l,k,hin,hl,hm,ho⟩)
theorem IsPart.rep (hp:IsPart h ls hs) {l:List AV} {vs:List Value} (hu:∀ i,i∈locsL l→i∈ls) (r:RepL μ h w l vs):RepL (partMp μ h ls) hs w (renL (posOf ls) l) vs :=
 RepL.ren (fun _ _ hx=>hp.mut.1 hx) l vs (fun i hi=>hp.keeps (hu i hi)) r
theorem IsPart.rel (hp:IsPart h ls hs) (hr:Rel μ h w):Rel (partMp μ h ls) hs w where
 inj:=fun i j b hi hj hm hm'=>by
  obtain ⟨l,e,hl⟩:=hp.nth hi
  obtain ⟨l',e',hl'⟩:=hp.nth hj
  rw [part_at e] at hm
  rw [part_at e'] at hm'
  have:l=l':=hr.inj l l' b (hp.lt hl) (hp.lt hl') hm hm'
  subst this
  rw [←posOf_nth ls i l hp.nodup e,←posOf_nth ls j l hp.nodup e']
 blk:=fun i k hi=>by
  obtain ⟨l,e,hl⟩:=hp.nth (List.getElem?_eq_some_iff.1 hi).1
  obtain ⟨b',h1,h2⟩:=hp.there i l e
  rw [hi] at h2
  simp only [Option.some.injEq] at h2
  subst h2
  have hi0:=hi
  have:=hr.blk l b' h1
  cases b' with
  | cells cs =>
   obtain ⟨b,vs,T,h3,h4,h5,h6⟩:=this
   refine ⟨b,vs,T,by rw [part_at e];exact h3,h4,by rw [singles_ren];exact h5,hp.rep (fun j hj=>?_) h6⟩
   refine (posOf_lt ls j).1 (hp.closed _ (locsH_at hi _ ?_))
   show _∈locsL (renL _ cs)
   rw [locsL_ren]
   exact List.mem_map_of_mem hj
  | rows z rs wr =>
   rcases this with ⟨h3,h4⟩ | ⟨b,vs,T,h3,h4,h5,h6⟩
   ·exact .inl ⟨h3.ren _,by rw [part_at e];exact h4⟩
   ·refine .inr ⟨b,vs,T,by rw [part_at e];exact h3,by rw [renR_len];exact h4,by rw [renR_len];exact h5,h6.ren fun a v hi r=>Rep.ren (fun _ _ hx=>hp.mut.1 hx) a v (fun j hj=>hp.keeps ((posOf_lt ls j).1 (hp.closed _ (locsH_at hi0 _ ?_)))) r⟩
    show _∈locsR (renR _ rs)
    rw [locsR_ren]
    exact List.mem_map_of_mem (hi j hj)
  | hole =>
   show (partMp μ h ls) i=none
   rw [part_at e];exact this
  | map es =>
   obtain ⟨b,ms,c,h3,h4,h5⟩:=this
   exact ⟨b,ms,c,by rw [part_at e];exact h3,h4,h5.keep fun b o v hc hm=>⟨hc,fun hx=>hm (hp.mut.1 hx)⟩⟩
 apart:=fun i b o hi hm ho=>by
  obtain ⟨l,e,hl⟩:=hp.nth hi
  rw [part_at e] at hm
  rcases ho with ho | ⟨l',k,hn,hl',hm',_⟩
  ·exact hr.apart l b o (hp.lt hl) hm ho
  ·have:l'=l:=hr.inj l' l b (List.getElem?_eq_some_iff.1 hl').1 (hp.lt hl) hm' hm
   subst this
   exact hn hl
 still:=fun b hb=>⟨(hr.still b hb).1,fun i hi hx=>by
  obtain ⟨l,e,hl⟩:=hp.nth hi
  rw [part_at e] at hx
  exact (hr.still b hb).2 l (hp.lt hl) hx⟩
 base:=hr.base
 old:=fun b o ho=>by
  rcases ho with ho | ⟨l,k,_,hl,hm,_⟩
  ·exact hr.old b o ho
  ·exact hr.mapped (List.getElem?_eq_some_iff.1 hl).1 hm
theorem outer_in {i l m:Nat} (e:ls[i]? = some l):outer ls m i=l:=by simp only [outer,e]
theorem outer_out {i m:Nat} (e:ls.length≤i):outer ls m i=m+(i - ls.length):=by
 simp only [outer,List.getElem?_eq_none e]
theorem join_outer (hp:IsPart h ls hs) (i:Nat):(joinMp μ h ls μ2) (outer ls h.length i)=μ2 i:=by
 by_cases hi:i < ls.length
 ·obtain ⟨l,e,hl⟩:=hp.nth (by rw [hp.len];exact hi)
  rw [outer_in e]
  simp only [joinMp,hp.lt hl,if_true,hl]
  rw [posOf_nth ls i l hp.nodup e]
 ·rw [outer_out (Nat.le_of_not_lt hi)]
  have h1:¬(h.length+(i - ls.length) < h.length):=by omega
  simp only [joinMp,h1,if_false]
  congr 1
  omega
theorem join_other {l:Nat} (h1:l < h.length) (h2:l∉ls):(joinMp μ h ls μ2) l=μ l:=by simp only [joinMp,h1,if_true,h2,if_false]
theorem Joins.cover (hj:Joins h ls h2 h3) {l:Nat} (hl:l < h3.length):(l < h.length∧l∉ls)∨∃ i,i < h2.length∧l=outer ls h.length i:=by
 by_cases h1:l < h.length
 ·by_cases h4:l∈ls
  ·exact .inr ⟨posOf ls l,Nat.lt_of_lt_of_le ((posOf_lt ls l).2 h4) hj.le,(outer_in (posOf_at ls l h4)).symm⟩
  ·exact .inl ⟨h1,h4⟩
 ·refine .inr ⟨l - h.length+ls.length,?_,?_⟩
  ·have:=hj.len
   have:=hj.le
   omega
  ·rw [outer_out (by omega)]
   omega
theorem Joins.at_outer (hj:Joins h ls h2 h3) {i:Nat} {k:Blk} (hi:i < h2.length) (e:h3[outer ls h.length i]? = some k):∃ b,h2[i]? = some b∧k=renB (outer ls h.length) b:=by
 have:=hj.new i h2[i] (List.getElem?_eq_getElem hi)
 rw [this] at e
 simp only [Option.some.injEq] at e
 exact ⟨h2[i],List.getElem?_eq_getElem hi,e.symm⟩
theorem Joins.mut (hp:IsPart h ls hs) (hj:Joins h ls h2 h3) (ho:μ2.out=(partMp μ h ls).out) {b o:Nat}:Mut (joinMp μ h ls μ2) h3 b o↔Mut μ2 h2 b o:=by
 constructor
 ·rintro (hx | ⟨l,k,hl,hm,hx⟩)
  ·exact .inl (by rw [ho];exact .inl hx)
  ·rcases hj.cover (List.getElem?_eq_some_iff.1 hl).1 with ⟨h1,h4⟩ | ⟨i,hi,rfl⟩
   ·rw [hj.old l h1 h4] at hl
    rw [join_other h1 h4] at hm
    exact .inl (by rw [ho];exact .inr ⟨l,k,h4,hl,hm,hx⟩)
   ·obtain ⟨b',h5,rfl⟩:=hj.at_outer hi hl
    rw [join_outer hp] at hm
    exact .inr ⟨i,b',h5,hm,(open_ren _ _ _).1 hx⟩
 ·rintro (hx | ⟨i,k,hi,hm,hx⟩)
  ·rw [ho] at hx
   rcases hx with hx | ⟨l,k,hn,hl,hm,hx⟩
   ·exact .inl hx
   ·have hlt:=(List.getElem?_eq_some_iff.1 hl).1
    exact .inr ⟨l,k,by rw [hj.old l hlt hn];exact hl,by rw [join_other hlt hn];exact hm,hx⟩
  ·exact .inr ⟨_,_,hj.new i k hi,by rw [join_outer hp];exact hm,(open_ren _ _ _).2 hx⟩
theorem Joins.keeps (hp:IsPart h ls hs) (hj:Joins h ls h2 h3) (i:Nat):KeepsAt μ2 h2 (joinMp μ h ls μ2) h3 (outer ls h.length) i :=
 fun k hk=>⟨hj.new i k hk,join_outer hp i⟩
theorem Joins.rep (hp:IsPart h ls hs) (hj:Joins h ls h2 h3) (ho:μ2.out=(partMp μ h ls).out) {a:AV} {v:Value} (r:Rep μ2 h2 w' a v):Rep (joinMp μ h ls μ2) h3 w' (ren (outer ls h.length) a) v :=
 Rep.ren (fun _ _ hx=>(hj.mut hp ho).1 hx) a v (fun i _=>hj.keeps hp i) r
theorem Joins.repL (hp:IsPart h ls hs) (hj:Joins h ls h2 h3) (ho:μ2.out=(partMp μ h ls).out) {a:List AV} {v:List Value} (r:RepL μ2 h2 w' a v):RepL (joinMp μ h ls μ2) h3 w' (renL (outer ls h.length) a) v :=
 RepL.ren (fun _ _ hx=>(hj.mut hp ho).1 hx) a v (fun i _=>hj.keeps hp i) r
theorem apart_part (hp:IsPart h ls hs) (hr:Rel μ h w) (e:Ext (partMp μ h ls) hs w μ2 h2 w') {l b:Nat} (h1:l < h.length) (h4:l∉ls) (hm:μ l=some b) :
  w'.heap[b]? = w.heap[b]? ∧ ∀ i,i < h2.length→μ2 i≠some b :=
 e.outside b (hr.mapped h1 hm) fun i hi hx=>by
  obtain ⟨l',e',hl'⟩:=hp.nth hi
  rw [part_at e'] at hx
  have:l'=l:=hr.inj l' l b (hp.lt hl') h1 hx hm
  subst this
  exact h4 hl'
theorem Joins.ext (hp:IsPart h ls hs) (hj:Joins h ls h2 h3) (e:Ext (partMp μ h ls) hs w μ2 h2 w'):Ext μ h w (joinMp μ h ls μ2) h3 w' where
 out:=rfl
 still:=rfl
 os:=e.os
 tape:=e.tape
 output:=e.output
 size:=e.size
 keep:=fun b o v hc hm=>by
  obtain ⟨h1,h4⟩:=e.keep b o v hc (fun hx=>hm (hp.mut.1 hx))
  exact ⟨h1,fun hx=>h4 ((hj.mut hp e.out).1 hx)⟩
 outside:=fun b hb ho=>by
  obtain ⟨h1,h4⟩:=e.outside b hb fun i hi hx=>by
   obtain ⟨l',e',hl'⟩:=hp.nth hi
   rw [part_at e'] at hx
   exact ho l' (hp.lt hl') hx
  refine ⟨h1,fun l hl hx=>?_⟩
  rcases hj.cover hl with ⟨h5,h6⟩ | ⟨i,hi,rfl⟩
  ·rw [join_other h5 h6] at hx
   exact ho l h5 hx
  ·rw [join_outer hp] at hx
   exact h4 i hi hx
 cells:=fun l cs hl=>by
  have hlt:=(List.getElem?_eq_some_iff.1 hl).1
  by_cases hin:l∈ls
  ·have hat:=posOf_at ls l hin
   obtain ⟨h1,h4⟩:=hp.keeps (μ:=μ) hin _ hl
   obtain ⟨⟨cs',h5⟩,h6⟩:=e.cells _ _ h1
   have:=hj.new _ _ h5
   rw [outer_in hat] at this
   refine ⟨⟨_,this⟩,?_⟩
   have h7:=join_outer (μ:=μ) (μ2:=μ2) hp (posOf ls l)
   rw [outer_in hat] at h7
   exact h7.trans (h6.trans h4)
  ·exact ⟨⟨cs,by rw [hj.old l hlt hin];exact hl⟩,join_other hlt hin⟩
 rows:=fun l z rs wr hl=>by
  have hlt:=(List.getElem?_eq_some_iff.1 hl).1
  by_cases hin:l∈ls
  ·have hat:=posOf_at ls l hin
   obtain ⟨h1,h4⟩:=hp.keeps (μ:=μ) hin _ hl
   obtain ⟨rs',wr',h5,h6,h7⟩:=e.rows _ _ _ _ h1
   have:=hj.new _ _ h5
   rw [outer_in hat] at this
   rw [renR_len] at h6
   refine ⟨_,wr',this,by rw [renR_len];exact h6,fun ee=>?_⟩
   rw [renR_len] at ee
   have h8:=join_outer (μ:=μ) (μ2:=μ2) hp (posOf ls l)
   rw [outer_in hat] at h8
   exact h8.trans ((h7 (by rw [renR_len];exact ee)).trans h4)
  ·exact ⟨rs,wr,by rw [hj.old l hlt hin];exact hl,Nat.le_refl _,fun _=>join_other hlt hin⟩
 len:=by
  have:=hj.len
  have:=hj.le
  omega
 maps:=fun l es hl=>by
  have hlt:=(List.getElem?_eq_some_iff.1 hl).1
  by_cases hin:l∈ls
  ·have hat:=posOf_at ls l hin
   obtain ⟨h1,h4⟩:=hp.keeps (μ:=μ) hin _ hl
   obtain ⟨⟨es',h5⟩,h6⟩:=e.maps _ _ h1
   have:=hj.new _ _ h5
   rw [outer_in hat] at this
   refine ⟨⟨_,this⟩,?_⟩
   have h7:=join_outer (μ:=μ) (μ2:=μ2) hp (posOf ls l)
   rw [outer_in hat] at h7
   exact h7.trans (h6.trans h4)
  ·exact ⟨⟨es,by rw [hj.old l hlt hin];exact hl⟩,join_other hlt hin⟩
 sizes:=e.sizes
theorem Joins.rel (hp:IsPart h ls hs) (hj:Joins h ls h2 h3) (hr:Rel μ h w) (hr2:Rel μ2 h2 w') (e:Ext (partMp μ h ls) hs w μ2 h2 w'):Rel (joinMp μ h ls μ2) h3 w' where
 inj:=fun l l' b hl hl' hm hm'=>by
  rcases hj.cover hl with ⟨h1,h4⟩ | ⟨i,hi,rfl⟩<;>rcases hj.cover hl' with ⟨h1',h4'⟩ | ⟨j,hj',rfl⟩
  ·rw [join_other h1 h4] at hm
   rw [join_other h1' h4'] at hm'
   exact hr.inj l l' b h1 h1' hm hm'
  ·rw [join_other h1 h4] at hm
   rw [join_outer hp] at hm'
   exact absurd hm' ((apart_part hp hr e h1 h4 hm).2 j hj')
  ·rw [join_outer hp] at hm
   rw [join_other h1' h4'] at hm'
   exact absurd hm ((apart_part hp hr e h1' h4' hm').2 i hi)
  ·rw [join_outer hp] at hm hm'
   rw [hr2.inj i j b hi hj' hm hm']
 blk:=fun l k hl=>by
  have ex:=hj.ext hp e
  rcases hj.cover (List.getElem?_eq_some_iff.1 hl).1 with ⟨h1,h4⟩ | ⟨i,hi,rfl⟩
  ·rw [hj.old l h1 h4] at hl
   have:=hr.blk l k hl
   cases k with
   | cells cs =>
    obtain ⟨b,vs,T,h5,h6,h7,h8⟩:=this
    exact ⟨b,vs,T,by rw [join_other h1 h4];exact h5,by rw [(apart_part hp hr e h1 h4 h5).1];exact h6,h7,RepL.ext ex cs vs h8⟩
   | rows z rs wr =>
    rcases this with ⟨h5,h6⟩ | ⟨b,vs,T,h5,h6,h7,h8⟩
    ·exact .inl ⟨h5,by rw [join_other h1 h4];exact h6⟩
    ·exact .inr ⟨b,vs,T,by rw [join_other h1 h4];exact h5,h6.eq (apart_part hp hr e h1 h4 h5).1,h7,h8.ext ex⟩
   | hole =>
    show (joinMp μ h ls μ2) l=none
    rw [join_other h1 h4];exact this
   | map es =>
    obtain ⟨b,ms,c,h5,h6,h7⟩:=this
    exact ⟨b,ms,c,by rw [join_other h1 h4];exact h5,by rw [(apart_part hp hr e h1 h4 h5).1];exact h6,h7.keep ex.keep⟩
  ·obtain ⟨b',h5,rfl⟩:=hj.at_outer hi hl
   have:=hr2.blk i b' h5
   cases b' with
   | cells cs =>
    obtain ⟨b,vs,T,h6,h7,h8,h9⟩:=this
    exact ⟨b,vs,T,by rw [join_outer hp];exact h6,h7,by rw [singles_ren];exact h8,hj.repL hp e.out h9⟩
   | rows z rs wr =>
    rcases this with ⟨h6,h7⟩ | ⟨b,vs,T,h6,h7,h8,h9⟩
    ·exact .inl ⟨h6.ren _,by rw [join_outer hp];exact h7⟩
    ·exact .inr ⟨b,vs,T,by rw [join_outer hp];exact h6,by rw [renR_len];exact h7,by rw [renR_len];exact h8,h9.ren fun a v _ r=>Rep.ren (fun _ _ hx=>(hj.mut hp e.out).1 hx) a v (fun i _=>hj.keeps hp i) r⟩
   | hole =>
    show (joinMp μ h ls μ2) _=none
    rw [join_outer hp];exact this
   | map es =>
    obtain ⟨b,ms,c,h6,h7,h8⟩:=this
    exact ⟨b,ms,c,by rw [join_outer hp];exact h6,h7,h8.keep fun b o v hc hm=>⟨hc,fun hx=>hm ((hj.mut hp e.out).1 hx)⟩⟩
 apart:=fun l b o hl hm ho=>by
  rcases hj.cover hl with ⟨h1,h4⟩ | ⟨i,hi,rfl⟩
  ·rw [join_other h1 h4] at hm
   exact hr.apart l b o h1 hm ho
  ·rw [join_outer hp] at hm
   refine hr2.apart i b o hi hm ?_
   rw [e.out]
   exact .inl ho
 old:=fun b o ho=>Nat.lt_of_lt_of_le (hr.old b o ho) e.size
 still:=(hr.carry (hj.ext hp e)).1
 base:=(hr.carry (hj.ext hp e)).2
end
section
variable {Bs:World→Prop}
variable {P:Program} {μ:Mp Bs} {h:Heap} {w:World} {a:Act} {o:Oper} {x:AV}
theorem piecesN_sound {ev:Operand→AV} {ρ:Operand→Value} (hr:Rel μ h w) (he:EvRep μ h w ev ρ) (z:Nat):∀ (parts:List (Nat×Operand)) (k:Nat) (rs:List (List AV)),piecesN h ev z k parts=some rs →
  ∃ flat:List Value,flat.length=rs.length*z∧RowsN μ h w z rs flat.toArray ∧
   ∀ arr:Array Value,(k+rs.length)*z≤arr.size→∃ us:Array Value,Instr.fill (fun i=>some (i*z,z)) arr (parts.map fun p=>(p.1,ρ p.2))=some us ∧
    us.toList=arr.toList.take (k*z)++flat++arr.toList.drop ((k+rs.length)*z)
 | [],k,rs,e=>by
  simp only [piecesN,Option.some.injEq] at e
  subst e
  refine ⟨[],by simp,fun i row e=>by simp at e,fun arr ha=>⟨arr,rfl,by simp⟩⟩
 | (j,x)::parts,k,rs,e=>by
  simp only [piecesN] at e
  split at e
  ·rename_i hk
   subst hk
   split at e
   ·rename_i cs hcs
    split at e
    ·rename_i hz
     split at e
     ·rename_i rs' hrs
      simp only [Option.some.injEq] at e
      subst e
      obtain ⟨flat,hf1,hf2,hf3⟩:=piecesN_sound hr he z parts (k+1) rs' hrs
      obtain ⟨hs,hp⟩:=cellsOf_sound hcs (keptA_sound hr _ _ (he x))
      have hul:(ρ x).cells.toList.length=z:=by rw [hp.len];exact hz
      have hul':(ρ x).cells.size=z:=by simpa using hul
      refine ⟨(ρ x).cells.toList++flat,by simp only [List.length_append,hul,hf1,List.length_cons,Nat.succ_mul];omega,?_,?_⟩
      ·intro i row hrow
       cases i with
       | zero =>
        simp only [List.getElem?_cons_zero,Option.some.injEq] at hrow
        subst hrow
        refine ⟨hz,hs,fun c a ha=>?_⟩
        obtain ⟨u,h1,h2⟩:=(RepL.at cs _ hp).2 c a ha
        refine ⟨u,?_,h2⟩
        have hc:c < z:=by rw [←hz];exact (List.getElem?_eq_some_iff.1 ha).1
        simp only [Nat.zero_mul,Nat.zero_add,List.getElem?_toArray]
        rw [List.getElem?_append_left (by omega)];exact h1
       | succ i =>
        simp only [List.getElem?_cons_succ] at hrow
        obtain ⟨h1,h2,h3⟩:=hf2 i row hrow
        refine ⟨h1,h2,fun c a ha=>?_⟩
        obtain ⟨u,h4,h5⟩:=h3 c a ha
        refine ⟨u,?_,h5⟩
        simp only [List.getElem?_toArray] at h4 ⊢
        rw [List.getElem?_append_right (by rw [hul,Nat.succ_mul];omega),hul,show (i+1)*z+c - z=i*z+c from by rw [Nat.succ_mul];omega]
        exact h4
      ·intro arr ha
       simp only [List.length_cons] at ha
       have hA:k*z+z≤arr.size:=by
        have:(k+1)*z≤(k+(rs'.length+1))*z:=Nat.mul_le_mul_right z (by omega)
        rw [Nat.succ_mul] at this
        omega
       have hfold:=foldl_set (k*z) (ρ x).cells.toList 0 arr (by simp;omega)
       obtain ⟨us,h1,h2⟩:=hf3 ((ρ x).cells.zipIdx.foldl (fun cs (y:Value×Nat)=>cs.setIfInBounds (k*z+y.2) y.1) arr) (by
        have:((ρ x).cells.zipIdx.foldl (fun cs (y:Value×Nat)=>cs.setIfInBounds (k*z+y.2) y.1) arr).toList.length=arr.size:=by
         rw [←Array.foldl_toList,Array.toList_zipIdx,hfold]
         simp
         omega
        rw [Array.length_toList] at this
        rw [this,show k+1+rs'.length=k+(rs'.length+1) from by omega]
        exact ha)
       refine ⟨us,?_,?_⟩
       ·simp only [List.map_cons,Instr.fill]
        rw [if_neg (by simp;omega)]
        exact h1
       ·rw [h2,←Array.foldl_toList,Array.toList_zipIdx,hfold]
        have e1:(arr.toList.take (k*z+0)++(ρ x).cells.toList).length=(k+1)*z:=by
         simp only [List.length_append,List.length_take,Array.length_toList,hul,Nat.succ_mul]
         omega
        rw [List.take_append_of_le_length (by rw [e1];exact Nat.le_refl _),List.take_of_length_le (by rw [e1];exact Nat.le_refl _)]
        rw [show (k+1+rs'.length)*z=(arr.toList.take (k*z+0)++(ρ x).cells.toList).length+rs'.length*z from by rw [e1,Nat.add_mul (k+1)]]
        rw [List.drop_append,List.drop_eq_nil_of_le (by omega),Nat.add_sub_cancel_left,List.drop_drop,List.nil_append]
        simp only [Nat.add_zero,List.append_assoc,hul,List.length_cons]
        congr 4
        rw [Nat.add_mul,Nat.add_mul,Nat.one_mul]
        omega
     ·simp at e
    ·simp at e
   ·simp at e
  ·simp at e
theorem buildN_sound {q:Bool} {t:TypeId} {n:Nat} {ev:Operand→AV} {ρ:Operand→Value} {parts:Array (Nat×Operand)} {h':Heap} (hr:Rel μ h w) (he:EvRep μ h w ev ρ) (e:buildN q h ev n parts.toList (es P t)=some (x,h')) :
  Made P μ h w (Instr.buildSlice t n (parts.map fun (i,x)=>(i,ρ x))) x h':=by
 unfold buildN at e
 split at e
 ·rename_i z b hes
  obtain ⟨u,i,y,hu,hi,hz,_,hy,_⟩:=es_zero hes
  unfold sliceN at e
  split at e
  ·rename_i rs hrs
   split at e
   ·rename_i hc
    obtain ⟨hn,hmax⟩:=hc
    simp only [Option.some.injEq,Prod.mk.injEq] at e
    obtain ⟨rfl,rfl⟩:=e
    obtain ⟨flat,hf1,hf2,hf3⟩:=piecesN_sound hr he z parts.toList 0 rs hrs
    have main:∀ zero:Array Value,∃ us:Array Value,Instr.fill (fun i=>some (i*z,z)) ((Array.range (n*z)).map (zero[· % zero.size]!)) (parts.toList.map fun p=>(p.1,ρ p.2))=some us∧us=flat.toArray:=by
     intro zero
     obtain ⟨us,h1,h2⟩:=hf3 ((Array.range (n*z)).map (zero[· % zero.size]!)) (by simp [hn])
     refine ⟨us,h1,?_⟩
     apply Array.ext'
     rw [h2]
     simp [hn]
    have hgt:¬n*z > 2 ^ 24:=by omega
    have ex:=Ext.push hr (.rows z rs q) (some (.cells flat.toArray u))
    have hsz:flat.toArray.size=n*z:=by simp [hf1,hn]
    have hheap:(w.alloc (.cells flat.toArray u)).heap[w.heap.size]? = some (.cells flat.toArray u (0,0)):=alloc_new _
    refine ⟨.slice (some ⟨w.heap.size,0,none⟩) n n,_,w.alloc (.cells flat.toArray u),?_,Rel.push hr (.rows z rs q) (some (.cells flat.toArray u)) ?_,ex,?_⟩
    ·by_cases h0:n*z=0
     ·obtain ⟨us,h1,rfl⟩:=main #[]
      simp only [Instr.buildSlice,Sem.run_bind,run_underlying hu,Result.andThen_ok,sizeOf,typeInfo,run_program,hi,Sem.run_pure,hz,if_neg hgt,if_pos h0,Array.toList_map]
      rw [h1]
      rfl
     ·obtain ⟨us,h1,rfl⟩:=main y.cells
      have hzv:(zeroValue u).run P w=.ok y w:=by simp [zeroValue,typeInfo,hi,hy]
      simp only [Instr.buildSlice,Sem.run_bind,run_underlying hu,Result.andThen_ok,sizeOf,typeInfo,run_program,hi,Sem.run_pure,hz,if_neg hgt,if_neg h0,hzv,Array.toList_map]
      rw [h1]
      rfl
    ·exact .inr ⟨w.heap.size,flat.toArray,u,set_same _ _,.free hheap,by rw [hsz,hn];exact Nat.le_refl _,hf2.ext ex⟩
    ·exact ⟨z,rs,q,_,n,by simp,by omega,rfl,fun _=>⟨Nat.le_refl _,fun h00=>h00,.inr ⟨w.heap.size,flat.toArray,u,rfl,set_same _ _,⟨_,hheap⟩,by rw [hsz];exact Nat.le_refl _⟩⟩⟩
   ·simp at e
  ·simp at e
 ·simp at e
theorem buildN_goes {q:Bool} {t:TypeId} {n:Nat} {parts:Array (Nat×Operand)} {ev:Operand→AV} {h':Heap} (hr:Rel μ h w) (he:EvRep μ h w ev a.eval) (ho:o.op=.buildSlice t n parts) (e:buildN q h ev n parts.toList (es P t)=some (x,h')):Goes P o a μ h w x h':=by
 refine goes_made ?_ (buildN_sound (P:=P) (t:=t) hr he e)
 simp only [execOp,ho,Sem.run_bind]
 rfl
mutual
theorem conv_sound (hr:Rel μ h w):∀ (a a':AV) (v:Value),conv h a=some a'→Rep μ h w a v→Rep μ h w a' v
 | .own l n,a',v,e,r=>by
  simp only [conv] at e
  split at e
  ·rename_i z rs wr hl
   split at e
   ·simp only [Option.some.injEq] at e
    subst e
    exact r
   ·rename_i hw
    split at e
    ·rename_i hn
     simp only [Option.some.injEq] at e
     subst e
     refine Rep.pure _ _ (purify_sound hr (.own l n) (.rows rs) v ?_ r)
     have hw:wr=false∧locsR rs=[]:=by simpa using hw
     obtain ⟨rfl,hlz⟩:=hw
     simp [purify,hl,hn,hlz]
    ·simp at e
  ·simp at e
 | .nils,a',v,e,r=>by
  simp only [conv,Option.some.injEq] at e
  subst e
  exact Rep.pure _ _ (purify_sound hr .nils (.rows []) v (by simp [purify]) r)
 | .lit rs,a',v,e,r=>by
  simp only [conv,Option.some.injEq] at e
  subst e
  exact Rep.pure _ _ (purify_sound hr (.lit rs) (.rows rs) v (by simp [purify]) r)
 | .agg cs,a',v,e,r=>by
  simp only [conv] at e
  split at e
  ·rename_i cs' hcs
   simp only [Option.some.injEq] at e
   subst e
   obtain ⟨vs,hv,r⟩:=r
   exact ⟨vs,hv,convL_sound hr cs cs' vs hcs r⟩
  ·simp at e
 | .optr _ _ _ _,_,_,e,r=>by simp only [conv,Option.some.injEq] at e;subst e;exact r
 | .tup cs,_,_,e,r=>by simp only [conv,Option.some.injEq] at e;subst e;exact r
 | .fn _ cs,_,_,e,r=>by simp only [conv,Option.some.injEq] at e;subst e;exact r
 | .bnd _ cs,_,_,e,r=>by simp only [conv,Option.some.injEq] at e;subst e;exact r
 | .iface _ a,_,_,e,r=>by simp only [conv,Option.some.injEq] at e;subst e;exact r
 | .ptr _ _,_,_,e,r=>by simp only [conv,Option.some.injEq] at e;subst e;exact r
 | .int _ _,_,_,e,r=>by simp only [conv,Option.some.injEq] at e;subst e;exact r
 | .bool _,_,_,e,r=>by simp only [conv,Option.some.injEq] at e;subst e;exact r
 | .str _,_,_,e,r=>by simp only [conv,Option.some.injEq] at e;subst e;exact r
 | .nilp,_,_,e,r=>by simp only [conv,Option.some.injEq] at e;subst e;exact r
 | .nilf,_,_,e,r=>by simp only [conv,Option.some.injEq] at e;subst e;exact r
 | .nili,_,_,e,r=>by simp only [conv,Option.some.injEq] at e;subst e;exact r
 | .emp _,_,_,e,r=>by simp only [conv,Option.some.injEq] at e;subst e;exact r
 | .nilm,_,_,e,r=>by simp only [conv,Option.some.injEq] at e;subst e;exact r
 | .rows _,_,_,e,r=>by simp only [conv,Option.some.injEq] at e;subst e;exact r
 | .rptr _ _,_,_,e,r=>by simp only [conv,Option.some.injEq] at e;subst e;exact r
 | .mp _,_,_,e,r=>by simp only [conv,Option.some.injEq] at e;subst e;exact r
 | .tptr _ _ _,_,_,e,r=>by simp only [conv,Option.some.injEq] at e;subst e;exact r
 | .town _ _ _,_,_,e,r=>by simp only [conv,Option.some.injEq] at e;subst e;exact r
 | .vw _ _ _ _,_,_,e,r=>by simp only [conv,Option.some.injEq] at e;subst e;exact r
 | .any,_,_,e,r=>by simp only [conv,Option.some.injEq] at e;subst e;exact r
theorem convL_sound (hr:Rel μ h w):∀ (l l':List AV) (vs:List Value),convL h l=some l'→RepL μ h w l vs→RepL μ h w l' vs
 | [],l',vs,e,r=>by simp only [convL,Option.some.injEq] at e;subst e;exact r
 | a::r,l',vs,e,x=>by
  simp only [convL] at e
  split at e
  ·rename_i a1 h1
   split at e
   ·rename_i r1 h2
    simp only [Option.some.injEq] at e
    subst e
    obtain ⟨v,vr,hv,x1,x2⟩:=x
    exact ⟨v,vr,hv,conv_sound hr a a1 v h1 x1,convL_sound hr r r1 vr h2 x2⟩
   ·simp at e
  ·simp at e
end
theorem back_length (σ:Nat→Nat):∀ (ls:List Nat) (bs h:Heap),(back σ ls bs h).length=h.length
 | [],bs,h=>by simp [back]
 | l::ls,[],h=>by simp [back]
 | l::ls,b::bs,h=>by simp only [back];rw [back_length σ ls bs];simp
theorem back_old (σ:Nat→Nat):∀ (ls:List Nat) (bs h:Heap) (l:Nat),l∉ls→(back σ ls bs h)[l]? = h[l]?
 | [],bs,h,l,_=>by simp [back]
 | x::ls,[],h,l,_=>by simp [back]
 | x::ls,b::bs,h,l,hl=>by
  simp only [back]
  rw [back_old σ ls bs _ l (fun hx=>hl (List.mem_cons_of_mem _ hx)),List.getElem?_set_ne (fun e=>hl (by simp [e]))]
theorem back_new (σ:Nat→Nat):∀ (ls:List Nat) (bs h:Heap) (i l:Nat) (b:Blk),ls.Nodup→ls[i]? = some l→bs[i]? = some b→l < h.length→(back σ ls bs h)[l]? = some (renB σ b)
 | [],bs,h,i,l,b,_,e,_,_=>by simp at e
 | x::ls,[],h,i,l,b,_,_,e,_=>by simp at e
 | x::ls,y::bs,h,0,l,b,hn,e,e',hl=>by
  simp only [List.getElem?_cons_zero,Option.some.injEq] at e e'
  subst e e'
  simp only [back]
  rw [back_old σ ls bs _ x (List.nodup_cons.1 hn).1,List.getElem?_set_self hl]
 | x::ls,y::bs,h,i+1,l,b,hn,e,e',hl=>by
  simp only [List.getElem?_cons_succ] at e e'
  simp only [back]
  exact back_new σ ls bs _ i l b (List.nodup_cons.1 hn).2 e e' (by simpa using hl)
theorem joins_back {hs h2:Heap} {ls:List Nat} (hp:IsPart h ls hs) (hlen:h2.length=ls.length):Joins h ls h2 (back (outer ls h.length) ls h2 h) where
 le:=by omega
 len:=by rw [back_length];omega
 old:=fun l _ hn=>back_old _ _ _ _ _ hn
 new:=fun i b hb=>by
  have hi:i < hs.length:=by rw [hp.len,←hlen];exact (List.getElem?_eq_some_iff.1 hb).1
  obtain ⟨l,e,hl⟩:=hp.nth hi
  rw [outer_in e]
  exact back_new _ _ _ _ _ _ _ hp.nodup e hb (hp.lt hl)
theorem joins_more {hs h2:Heap} {ls:List Nat} {b:Blk} (hp:IsPart h ls hs) (hlen:h2.length=ls.length+1) (hb:h2[ls.length]? = some b) (hren:renB (outer ls h.length) b=b):Joins h ls h2 (back (outer ls h.length) ls h2 h++[b]) where
 le:=by omega
 len:=by simp only [List.length_append,back_length,List.length_singleton];omega
 old:=fun l hl hn=>by rw [List.getElem?_append_left (by rw [back_length];exact hl)];exact back_old _ _ _ _ _ hn
 new:=fun i b' hb'=>by
  have hlt:=(List.getElem?_eq_some_iff.1 hb').1
  by_cases hi:i < ls.length
  ·obtain ⟨l,e,hl⟩:=hp.nth (by rw [hp.len];exact hi)
   rw [outer_in e,List.getElem?_append_left (by rw [back_length];exact hp.lt hl)]
   exact back_new _ _ _ _ _ _ _ hp.nodup e hb' (hp.lt hl)
  ·have hi2:i=ls.length:=by omega
   subst hi2
   rw [hb] at hb'
   simp only [Option.some.injEq] at hb'
   subst hb'
   rw [outer_out (Nat.le_refl _),List.getElem?_append_right (by rw [back_length];omega),back_length,hren]
   simp
theorem joins_many {hs h2:Heap} {ls:List Nat} (hp:IsPart h ls hs) (hle:ls.length≤h2.length):Joins h ls h2 (back (outer ls h.length) ls h2 h++(h2.drop ls.length).map (renB (outer ls h.length))) where
 le:=hle
 len:=by simp only [List.length_append,back_length,List.length_map,List.length_drop]
 old:=fun l hl hn=>by rw [List.getElem?_append_left (by rw [back_length];exact hl)];exact back_old _ _ _ _ _ hn
 new:=fun i b' hb'=>by
  by_cases hi:i < ls.length
  ·obtain ⟨l,e,hl⟩:=hp.nth (by rw [hp.len];exact hi)
   rw [outer_in e,List.getElem?_append_left (by rw [back_length];exact hp.lt hl)]
   exact back_new _ _ _ _ _ _ _ hp.nodup e hb' (hp.lt hl)
  ·rw [outer_out (by omega),List.getElem?_append_right (by rw [back_length];omega),back_length,List.getElem?_map,List.getElem?_drop,show ls.length+(h.length+(i - ls.length) - h.length)=i by omega,hb']
   rfl
theorem joins_new (b:Blk) (hb:locsB b=[]):Joins h [] [b] (h++[b]) where
 le:=by simp
 len:=by simp
 old:=fun l hl _=>List.getElem?_append_left hl
 new:=fun i b' hb'=>by
  cases i with
  | zero =>
   simp only [List.getElem?_cons_zero,Option.some.injEq] at hb'
   subst hb'
   rw [outer_out (by simp)]
   have:renB (outer [] h.length) b=b:=by
    cases b with
    | rows z rs wr =>
     show Blk.rows z (renR _ rs) wr=_
     rw [loclessR _ rs hb]
    | hole=>rfl
    | map _=>rfl
    | cells cs =>
     have:∀ l:List AV,locsL l=[]→renL (outer [] h.length) l=l:=locless_ren _
     simp only [renB,this cs hb]
   simp [this]
  | succ i=>simp at hb'
where
 loclessR (σ:Nat→Nat):∀ rs:List (List AV),locsR rs=[]→renR σ rs=rs
  | [],_=>rfl
  | r::rs,h=>by
   have h:=List.append_eq_nil_iff.1 (show locsL r++locsR rs=[] from h)
   simp only [renR];rw [locless_ren σ r h.1,loclessR σ rs h.2]
 locless (σ:Nat→Nat):∀ a:AV,locs a=[]→ren σ a=a
  | .agg cs,h=>by simp only [ren];rw [locless_ren σ cs h]
  | .tup cs,h=>by simp only [ren];rw [locless_ren σ cs h]
  | .fn _ cs,h=>by simp only [ren];rw [locless_ren σ cs h]
  | .bnd _ cs,h=>by simp only [ren];rw [locless_ren σ cs h]
  | .iface _ a,h=>by simp only [ren];rw [locless σ a h]
  | .ptr _ _,h=>by simp [locs] at h
  | .own _ _,h=>by simp [locs] at h
  | .optr _ _ _ _,h=>by simp [locs] at h
  | .mp _,h=>by simp [locs] at h
  | .tptr _ _ _,h=>by simp [locs] at h
  | .town _ _ _,h=>by simp [locs] at h
  | .vw _ _ _ _,h=>by simp [locs] at h
  | .int _ _,_=>rfl
  | .bool _,_=>rfl
  | .str _,_=>rfl
  | .nilp,_=>rfl
  | .nilf,_=>rfl
  | .nili,_=>rfl
  | .emp _,_=>rfl
  | .nilm,_=>rfl
  | .nils,_=>rfl
  | .rows _,_=>rfl
  | .lit _,_=>rfl
  | .rptr _ _,_=>rfl
  | .any,_=>rfl
 locless_ren (σ:Nat→Nat):∀ l:List AV,locsL l=[]→renL σ l=l
  | [],_=>rfl
  | a::r,h=>by
   simp only [locsL,List.append_eq_nil_iff] at h
   simp only [renL]
   rw [locless σ a h.1,locless_ren σ r h.2]
theorem part_nil:IsPart h [] [] where
 nodup:=by simp
 len:=rfl
 there:=fun i l e=>by simp at e
 closed:=fun l hl=>by simp [locsH] at hl
theorem part_call {F:Tk→Res} (hF:Knows Bs P F) {g:FuncId} {all:List Value} {args:List AV} {ls:List Nat} {hs h2 h3:Heap} {r:AV} (hr:Rel μ h w)
  (hent:Go.Proofs.Enters P g→(execOp a.eval o).run P w=.ok (.enter g all.toArray) w) (hp:IsPart h ls hs) (ha:RepL (partMp μ h ls) hs w args all)
  (e:F (.call g args hs)=some (r,h2)) (hj:Joins h ls h2 h3):Goes P o a μ h w (ren (outer ls h.length) r) h3:=by
 obtain ⟨hen,hcl⟩:=hF _ _ _ _ _ e
 exact goes_enter (hent hen) hcl (hp.rel hr) ha fun v μ2 w' q2 q3 q4=>⟨_,hj.rel hp hr q2 q3,hj.ext hp q3,hj.rep hp q3.out q4⟩
end
section
variable {Bs:World→Prop}
variable {P:Program} {μ:Mp Bs} {h:Heap} {w:World} {a:Act} {o:Oper} {x:AV}
variable {P:Program} {μ:Mp Bs} {h:Heap} {w:World}
abbrev NoM:Nat→Nat→Prop:=fun _ _=>False
theorem keeps_no (M:Nat→Nat→Prop) (w:World):Keeps M w NoM w:=fun _ _ _ hc _=>⟨hc,fun x=>x⟩
theorem repL_of:∀ (row:List AV) (V:Nat→Option Value),(∀ (c:Nat) (a:AV),row[c]? = some a→∃ v,V c=some v∧Rep μ h w a v)→∃ l:List Value,RepL μ h w row l∧∀ (c:Nat) (v:Value),l[c]? = some v→V c=some v
 | [],V,_=>⟨[],rfl,fun c v hv=>by simp at hv⟩
 | a::r,V,hV=>by
  obtain ⟨v,h1,h2⟩:=hV 0 a rfl
  obtain ⟨l,h3,h4⟩:=repL_of r (fun c=>V (c+1)) fun c a ha=>hV (c+1) a (by simpa using ha)
  refine ⟨v::l,⟨v,l,rfl,h2,h3⟩,fun c u hu=>?_⟩
  cases c with
  | zero=>simp only [List.getElem?_cons_zero,Option.some.injEq] at hu;subst hu;exact h1
  | succ c=>exact h4 c u (by simpa using hu)
theorem prepL_at {M:Nat→Nat→Prop}:∀ (row:List AV) (l:List Value),PRepL M w row l→∀ (c:Nat) (a:AV),row[c]? = some a→∃ v,l[c]? = some v∧PRep M w a v
 | [],_,_,c,a,ha=>by simp at ha
 | b::r,_,hl,c,a,ha=>by
  obtain ⟨v,l,rfl,h1,h2⟩:=hl
  cases c with
  | zero=>simp only [List.getElem?_cons_zero,Option.some.injEq] at ha;subst ha;exact ⟨v,rfl,h1⟩
  | succ c=>exact prepL_at r l h2 c a (by simpa using ha)
def Looks (μ:Mp Bs) (h:Heap) (w:World) (f:List AV→Option (List AV)):Prop:=∀ (cs cs':List AV) (vs:List Value),f cs=some cs'→RepL μ h w cs vs→PRepL NoM w cs' vs
theorem okRow_some {row row':List AV} {o:Option (List AV)} (e:okRow row o=some row'):o=some row'∧row'.length=row.length∧singles row'=true:=by
 unfold okRow at e
 split at e
 ·split at e
  ·simp only [Option.some.injEq] at e
   subst e
   rename_i hc
   exact ⟨rfl,hc⟩
  ·simp at e
 ·simp at e
theorem cells_look {f:List AV→Option (List AV)} (hf:Looks μ h w f) {row row':List AV} (e:okRow row (f row)=some row') {V:Nat→Option Value} (hV:∀ (c:Nat) (a:AV),row[c]? = some a→∃ v,V c=some v∧Rep μ h w a v) :
  row'.length=row.length∧singles row'=true∧∀ (c:Nat) (a:AV),row'[c]? = some a→∃ v,V c=some v∧PRep NoM w a v:=by
 obtain ⟨e1,e2,e3⟩:=okRow_some e
 obtain ⟨l,h1,h2⟩:=repL_of row V hV
 have h3:=hf row row' l e1 h1
 refine ⟨e2,e3,fun c a ha=>?_⟩
 obtain ⟨v,h4,h5⟩:=prepL_at row' l h3 c a ha
 exact ⟨v,h2 c v h4,h5⟩
theorem snapRows_at {f:List AV→Option (List AV)}:∀ {rs rs':List (List AV)},snapRows f rs=some rs'→rs'.length=rs.length∧∀ (i:Nat) (row':List AV),rs'[i]? = some row'→∃ row,rs[i]? = some row∧okRow row (f row)=some row'
 | [],rs',e=>by
  simp only [snapRows,Option.some.injEq] at e
  subst e
  exact ⟨rfl,fun i row' hi=>by simp at hi⟩
 | row::r,rs',e=>by
  unfold snapRows at e
  split at e
  ·rename_i row2 h1
   split at e
   ·rename_i r2 h2
    simp only [Option.some.injEq] at e
    subst e
    obtain ⟨h3,h4⟩:=snapRows_at h2
    refine ⟨by simp [h3],fun i row' hi=>?_⟩
    cases i with
    | zero=>simp only [List.getElem?_cons_zero,Option.some.injEq] at hi;subst hi;exact ⟨row,rfl,h1⟩
    | succ i =>
     obtain ⟨row3,h5,h6⟩:=h4 i row' (by simpa using hi)
     exact ⟨row3,by simpa using h5,h6⟩
   ·simp at e
  ·simp at e
theorem rows_look {f:List AV→Option (List AV)} (hf:Looks μ h w f) {z:Nat} {rs rs':List (List AV)} {vs:Array Value} (e:snapOf f rs=some rs') (hin:RowsN μ h w z rs vs) :
  rs'.length=rs.length∧∀ (i:Nat) (row':List AV),rs'[i]? = some row'→row'.length=z∧singles row'=true∧∀ (c:Nat) (a:AV),row'[c]? = some a→∃ v,vs[i*z+c]? = some v∧PRep NoM w a v:=by
 unfold snapOf at e
 split at e
 ·rename_i hc
  simp only [Option.some.injEq] at e
  subst e
  refine ⟨rfl,fun i row hrow=>?_⟩
  obtain ⟨h1,h2,h3⟩:=hin.none hc.1 i row hrow
  refine ⟨h1,h2,fun c a ha=>?_⟩
  obtain ⟨v,h4,h5⟩:=h3 c a ha
  exact ⟨v,h4,PRep.keep (keeps_no _ _) a v h5⟩
 ·obtain ⟨h1,h2⟩:=snapRows_at e
  refine ⟨h1,fun i row' hi=>?_⟩
  obtain ⟨row,h3,h4⟩:=h2 i row' hi
  obtain ⟨h5,h6,h7⟩:=hin i row h3
  obtain ⟨h8,h9,h10⟩:=cells_look hf h4 (V:=fun c=>vs[i*z+c]?) h7
  exact ⟨h8.trans h5,h9,h10⟩
end
end Go.Ab
