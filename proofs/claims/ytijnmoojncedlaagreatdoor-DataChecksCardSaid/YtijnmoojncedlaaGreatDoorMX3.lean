/- What is proved: contracts of the program's and the reference's functions in the evaluator, and plain laws on them. Conditions: as each states. -/
import Derived.Test.YtijnmoojncedlaaGreatDoorMX2
set_option linter.unusedSimpArgs false
set_option linter.unusedSectionVars false
set_option linter.unusedVariables false
set_option maxRecDepth 100000
namespace Go.Ab
open Go Go.Proofs
section
variable {C:Cfg} {F:Tk→Res} {dy:List (Nat×Nat)} {pl:Nat→Nat} {ops:Array Oper} {i:Nat} {o:Oper} {g:Nat→AV} {h:Zd} {p:Nat} {b:Blk}
theorem ZfN (ho:ops[i]? = some o) (hm:Znp o.op=true) (hq:isQ dy i o.op=false) (hp:p < h.length) (hb:∀ (l:Nat) (k:Blk),h[l]? = some k→p∉Xj k) (hg:∀ s,p∉Zm (g s)) :
  Z8 C F dy pl ops i g (h.set p b)=(match Z8 C F dy pl ops i g h with
   | some (x,h',T)=>some (x,h'.set p b,T)
   | none=>none)∧∀ x h' T,Z8 C F dy pl ops i g h=some (x,h',T)→h'[p]? = h[p]? := by
 have he:∀ y,p∉Zm (evF g y):=fun y=>by
  cases y with
  | tmp t=>exact hg t
  | const v=>rw [show evF g (.const v)=Xr v from rfl,ZbQ];simp
  | func f=>simp [evF,Zm,Zk]
  | global _=>simp [evF,Zm]
 have hes:∀ l:List Operand,p∉Zk (evs (evF g) l):=fun l hx=>by
  obtain ⟨y,_,h2⟩:=ZdG _ _ _ hx
  exact he y h2
 unfold Znp at hm
 cases hop:o.op with
 | call c =>
  rw [hop] at hm hq
  cases hc:c.callee with
  | value f =>
   have hal:alo (Op.call c)=false:=rfl
   obtain ⟨t1,t2⟩:=Zg9 (b:=b) hb (evs (evF g) c.args.toList) (evF g f) (hes _) (he _)
   have key:∀ h:Zd,Xk C F dy pl i (evF g) h (.call c)=Yv C.nlA F h (evs (evF g) c.args.toList) (evF g f):=fun h=>by
    simp only [Xk,hq,hal,Bool.false_eq_true,if_false,Z0,Zaa,hc]
   have tkey:∀ h:Zd,Z9 dy i (evF g) h (.call c)=Y7 h (evs (evF g) c.args.toList) (evF g f):=fun h=>by
    simp only [Z9,hq,Bool.false_eq_true,if_false,Yh,hc]
   have hfill:=Zk3 (nl:=C.nlA) (F:=F) (b:=b) hp hb (evs (evF g) c.args.toList) (evF g f) (hes _) (he _)
   refine ⟨?_,?_⟩
   ·unfold Z8
    simp only [ho,hop,key,tkey,hfill,t1]
    cases XU ops g o with
    | none=>rfl
    | some d =>
     cases d with
     | false=>rfl
     | true =>
      cases hv:Yv C.nlA F h (evs (evF g) c.args.toList) (evF g f) with
      | none=>rfl
      | some q =>
       obtain ⟨x,h'⟩:=q
       simp only [Zf4]
       rw [Zkx _ t2]
   ·intro x h' T e
    unfold Z8 at e
    simp only [ho,hop,key,tkey] at e
    split at e
    ·split at e
     ·rename_i hv
      simp only [Option.some.injEq,Prod.mk.injEq] at e
      obtain ⟨rfl,rfl,_⟩:=e
      have:=ZfY (C:=C) (F:=F) (ev:=evF g) (h:=h) (.call c) (by simpa only [Z0,Zaa,hc] using hv)
      refine this.2 p hp ?_
      simpa only [Yh,hc] using t2
     ·simp at e
    ·simp only [Option.some.injEq,Prod.mk.injEq] at e
     obtain ⟨_,rfl,_⟩:=e
     rfl
    ·simp at e
  | _=>simp [hc] at hm
 | _=>simp [hop] at hm
end
theorem J0:∀ a b:List UInt8,a≠b→Op.bytesLess a b=!Op.bytesLess b a
 | [],[],h=>absurd rfl h
 | [],_::_,_=>rfl
 | _::_,[],_=>rfl
 | x::a,y::b,h=>by
  simp only [Op.bytesLess]
  by_cases hxy:x=y
  ·subst hxy
   have:=J0 a b fun e=>h (by rw [e])
   simp [this]
  ·have h1:(x==y)=false:=by simpa using hxy
   have h2:(y==x)=false:=by simpa using fun e:y=x=>hxy e.symm
   simp only [h1,h2,Bool.false_and,Bool.or_false]
   rcases UInt8.lt_or_lt_of_ne hxy with h3 | h3
   ·have:¬y < x:=fun h4=>absurd (UInt8.lt_trans h3 h4) (UInt8.lt_irrefl _)
    simp [h3,this]
   ·have:¬x < y:=fun h4=>absurd (UInt8.lt_trans h3 h4) (UInt8.lt_irrefl _)
    simp [h3,this]
theorem Zb4:∀ a b c:List UInt8,Op.bytesLess a b=true→Op.bytesLess b c=true→Op.bytesLess a c=true
 | _,_,[],_,h=>by simp [Op.bytesLess] at h
 | _,[],_::_,h,_=>by simp [Op.bytesLess] at h
 | [],_::_,_::_,_,_=>rfl
 | x::a,y::b,z::c,h,h'=>by
  simp only [Op.bytesLess,Bool.or_eq_true,Bool.and_eq_true,decide_eq_true_eq,beq_iff_eq] at h h' ⊢
  rcases h with h | ⟨rfl,h⟩
  ·rcases h' with h' | ⟨rfl,_⟩
   ·exact .inl (UInt8.lt_trans h h')
   ·exact .inl h
  ·rcases h' with h' | ⟨rfl,h'⟩
   ·exact .inl h'
   ·exact .inr ⟨rfl,Zb4 a b c h h'⟩
theorem Zej {a b:List UInt8} {c:AV} (h:Op.bytesLess a b=true) (h':JE (.str b) c=true):JE (.str a) c=true:=by
 cases c<;>simp only [JE] at h' ⊢<;>first | exact Zb4 _ _ _ h h' | exact h'
theorem ZgY {a b:List UInt8} (hab:a≠b) (v u:AV):∀ es:List (AV×AV),XG (.str a) v (XG (.str b) u es)=XG (.str b) u (XG (.str a) v es)
 | []=>by
  have h:=J0 a b hab
  simp only [XG,JE]
  by_cases hb:Op.bytesLess b a=true
  ·rw [hb] at h;simp [h,hb]
  ·rw [Bool.not_eq_true] at hb;rw [hb] at h;simp [h,hb]
 | e::r=>by
  have h:=J0 a b hab
  have ih:=ZgY hab v u r
  cases hA:JE (.str a) e.1 with
  | true =>
   cases hB:JE (.str b) e.1 with
   | true =>
    simp only [XG,hA,hB,if_true]
    have e1:JE (.str a) (.str b)=Op.bytesLess a b:=rfl
    have e2:JE (.str b) (.str a)=Op.bytesLess b a:=rfl
    cases hb:Op.bytesLess b a<;>rw [hb] at h<;>simp [e1,e2,h,hb,hA,hB]
   | false =>
    have hba:Op.bytesLess b a=false:=by
     cases hb:Op.bytesLess b a with
     | false=>rfl
     | true=>rw [Zej hb hA] at hB;cases hB
    have e2:JE (.str b) (.str a)=false:=hba
    simp [XG,hA,hB,e2]
  | false =>
   cases hB:JE (.str b) e.1 with
   | true =>
    have hab':Op.bytesLess a b=false:=by
     cases hb:Op.bytesLess a b with
     | false=>rfl
     | true=>rw [Zej hb hB] at hA;cases hA
    have e1:JE (.str a) (.str b)=false:=hab'
    simp [XG,hA,hB,e1]
   | false=>simp [XG,hA,hB,ih]
theorem Zdw {kk:KK} {k k' u:AV}:∀ (es:List (AV×AV)) (n:Nat),Yc kk k (XG k' u es) n=some none↔(Xc kk k k'=some false∧Yc kk k es n=some none)
 | [],n=>by
  simp only [XG,Yc]
  cases Xc kk k k' with
  | none=>simp
  | some q=>cases q<;>simp
 | (c,x)::r,n=>by
  simp only [XG]
  split
  ·simp only [Yc]
   cases hq:Xc kk k k' with
   | none=>simp
   | some q =>
    cases q with
    | true=>simp
    | false =>
     simp only [true_and]
     cases Xc kk k c with
     | none=>simp
     | some q=>cases q<;>simp [findA_none r (n+1+1) (n+1)]
  ·simp only [Yc]
   cases hq:Xc kk k c with
   | none=>simp
   | some q =>
    cases q with
    | true=>simp
    | false=>simp only;exact Zdw r (n+1)
where
 findA_none {kk:KK} {k:AV}:∀ (es:List (AV×AV)) (n m:Nat),Yc kk k es n=some none↔Yc kk k es m=some none
  | [],_,_=>by simp [Yc]
  | (c,x)::r,n,m=>by
   simp only [Yc]
   cases Xc kk k c with
   | none=>simp
   | some q =>
    cases q with
    | true=>simp
    | false=>exact findA_none r (n+1) (m+1)
theorem Zkv (k v:AV):∀ es:List (AV×AV),(XG k v es).length=es.length+1
 | []=>rfl
 | p::r=>by
  simp only [XG]
  split
  ·rfl
  ·simp [Zkv k v r]
theorem Zd5 {P:Program} {t:TypeId} {h h':Zd} {l:Nat} {k v:AV}:Ju P t h (.mp l) k v=some h'↔∃ kk e es v',Zem P t=some (kk,e)∧h[l]? = some (.map es)∧ZbG kk k=true∧ZJ h v=some v'∧Yc kk k es 0=some none∧h'=h.set l (.map (XG k v' es)):=by
 constructor
 ·intro e
  obtain ⟨h1,h2⟩:=Zag e
  unfold Zfx at h1
  simp only at h1
  split at h1
  ·rename_i kk el es hk hl
   split at h1
   ·rename_i hf
    simp only [Q2,hk,hl,hf] at h2
    split at h2
    ·rename_i ho
     cases hv:ZJ h v with
     | none=>simp [hv] at h2
     | some v' =>
      simp only [hv,YK,Option.some.injEq] at h2
      exact ⟨kk,el,es,v',hk,hl,ho,rfl,hf,h2.symm⟩
    ·simp at h2
   ·simp at h1
  ·simp at h1
 ·rintro ⟨kk,e,es,v',h1,h2,h3,h4,h5,rfl⟩
  simp [Ju,Zfx,Q2,h1,h2,h3,h4,h5,YK]
def Jg (oi oj:Oper):Bool :=
 match oi,oj with
 | ⟨_,.insert t (.tmp m) (.const (.string k)) _,_,_,_,none⟩,⟨_,.insert t' (.tmp m') (.const (.string k')) _,_,_,_,none⟩=>decide (t=t')&&(decide (m=m')&&!(k.data.toList==k'.data.toList))
 | _,_=>false
section
variable {C:Cfg} {F:Tk→Res} {dy:List (Nat×Nat)} {pl:Nat→Nat} {ops:Array Oper} {i j:Nat} {oi oj:Oper} {g:Nat→AV} {h h' h'':Zd} {x y:AV} {T T':List Nat}
theorem ZmQ {l:Nat} {k v:AV} {es:List (AV×AV)} (hl:h[l]? = some (.map es)):chg h (h.set l (.map (XG k v es))) [l]=[l]:=by
 have hlt:=(List.getElem?_eq_some_iff.1 hl).1
 simp only [chg,hl,List.getElem?_set_self hlt]
 have:¬eqB (some (.map es)) (some (.map (XG k v es)))=true:=fun e=>by
  have:=ZpN e
  simp only [Option.some.injEq,Blk.map.injEq] at this
  have:=congrArg List.length this
  rw [Zkv] at this
  omega
 rw [if_neg this]
theorem Zbb {t:TypeId} {m:Nat} {k:Value} {u:Operand} (ho:ops[i]? = some oi) (hop:oi.op=.insert t (.tmp m) (.const k) u) (hg:oi.guard=none) :
  Z8 C F dy pl ops i g h=some (x,h',T)↔∃ l kk e es v',g m=.mp l∧Zem C.P t=some (kk,e)∧h[l]? = some (.map es)∧ZbG kk (Xr k)=true∧ZJ h (evF g u)=some v'∧Yc kk (Xr k) es 0=some none∧h'=h.set l (.map (XG (Xr k) v' es))∧x=.any∧T=[l]:=by
 have hq:isQ dy i (.insert t (.tmp m) (.const k) u)=false:=rfl
 have hal:alo (.insert t (.tmp m) (.const k) u)=false:=rfl
 have e1:Z8 C F dy pl ops i g h=(match WO (Ju C.P t h (g m) (Xr k) (evF g u)) with
   | some (x,h')=>some (x,h',chg h h' (Zm (g m)))
   | none=>none):=by
  unfold Z8
  simp only [ho,hop,XU,hg,Xk,Z9,hq,hal,Bool.false_eq_true,if_false,Z0,Yh]
  rfl
 rw [e1]
 constructor
 ·intro e
  cases hs:Ju C.P t h (g m) (Xr k) (evF g u) with
  | none=>simp [hs,WO] at e
  | some h1 =>
   simp only [hs,WO,Option.some.injEq,Prod.mk.injEq] at e
   obtain ⟨rfl,rfl,rfl⟩:=e
   have:∃ l,g m=.mp l:=by
    have:=(Zag hs).1
    unfold Zfx at this
    split at this
    ·exact ⟨_,by assumption⟩
    ·simp at this
   obtain ⟨l,hl⟩:=this
   rw [hl] at hs ⊢
   obtain ⟨kk,el,es,v',h1,h2,h3,h4,h5,rfl⟩:=Zd5.1 hs
   exact ⟨l,kk,el,es,v',rfl,h1,h2,h3,h4,h5,rfl,rfl,by simp only [Zm];exact ZmQ h2⟩
 ·rintro ⟨l,kk,el,es,v',hl,h1,h2,h3,h4,h5,rfl,rfl,rfl⟩
  rw [hl,Zd5.2 ⟨kk,el,es,v',h1,h2,h3,h4,h5,rfl⟩]
  simp only [WO,Zm]
  rw [ZmQ h2]
theorem ZiV (ho:ops[i]? = some oi) (ho':ops[j]? = some oj) (hp:Jg oi oj=true)
  (h1:Z8 C F dy pl ops i g h=some (x,h',T)) (h2:Z8 C F dy pl ops j g h'=some (y,h'',T'))
  (ci:∀ s,s∈Xi oj.op→∀ l,l∈Zm (g s)→l∉T) (cj:∀ s,s∈Xi oi.op→∀ l,l∈Zm (g s)→l∉T') :
  ∃ h2,Z8 C F dy pl ops j g h=some (y,h2,T')∧Z8 C F dy pl ops i g h2=some (x,h'',T):=by
 unfold Jg at hp
 split at hp
 ·rename_i d1 t m k u t1 p1 ed1 d2 t' m' k' u' t2 p2 ed2
  simp only [Bool.and_eq_true,decide_eq_true_eq,Bool.not_eq_true',beq_eq_false_iff_ne] at hp
  obtain ⟨rfl,rfl,hk⟩:=hp
  have ok1:Xr (.string k)=.str k.data.toList:=rfl
  have ok2:Xr (.string k')=.str k'.data.toList:=rfl
  obtain ⟨l,kk,e,es,v,a1,a2,a3,a4,a5,a6,rfl,rfl,rfl⟩:=(Zbb ho rfl rfl).1 h1
  obtain ⟨l2,kk2,e2,es2,v2,b1,b2,b3,b4,b5,b6,rfl,rfl,rfl⟩:=(Zbb ho' rfl rfl).1 h2
  rw [a1] at b1
  obtain rfl:l=l2:=by simpa using b1
  rw [a2] at b2
  simp only [Option.some.injEq,Prod.mk.injEq] at b2
  obtain ⟨rfl,rfl⟩:=b2
  have hlt:=(List.getElem?_eq_some_iff.1 a3).1
  rw [List.getElem?_set_self hlt] at b3
  simp only [Option.some.injEq,Blk.map.injEq] at b3
  subst b3
  obtain ⟨c1,c2⟩:=(Zdw _ _).1 b6
  have loc:∀ {w:Operand} {bl:Blk},(∀ s,w=.tmp s→∀ l',l'∈Zm (g s)→l'∉[l])→ZJ (h.set l bl) (evF g w)=ZJ h (evF g w):=fun {w bl} hw=>by
   refine (Qs _ fun l' hl'=>?_).symm
   refine Zey l' fun e=>?_
   subst e
   cases w with
   | tmp s=>exact hw s rfl l' hl' (by simp)
   | const q=>rw [show evF g (.const q)=Xr q from rfl,ZbQ] at hl';simp at hl'
   | func f=>simp [evF,Zm,Zk] at hl'
   | global _=>simp [evF,Zm] at hl'
  have p2':ZJ h (evF g u')=some v2:=by
   rw [←b5]
   exact (loc fun s hs=>ci s (by rw [hs];simp [Xi,W0])).symm
  have c0:Xc kk (Xr (.string k)) (Xr (.string k'))=some false:=by
   rw [ok1,ok2] at c1 ⊢
   cases kk<;>simp only [Xc] at c1 ⊢<;>first | (simp at c1) | skip
   all_goals (simp only [Option.some.injEq,beq_eq_false_iff_ne];exact hk)
  refine ⟨h.set l (.map (XG (Xr (.string k')) v2 es)),(Zbb ho' rfl rfl).2 ⟨l,kk,e,es,v2,a1,a2,a3,b4,p2',c2,rfl,rfl,rfl⟩,
   (Zbb ho rfl rfl).2 ⟨l,kk,e,XG (Xr (.string k')) v2 es,v,a1,a2,by rw [List.getElem?_set_self hlt],a4,?_,(Zdw _ _).2 ⟨c0,a6⟩,?_,rfl,rfl⟩⟩
  ·rw [←a5]
   exact loc fun s hs=>cj s (by rw [hs];simp [Xi,W0])
  ·rw [List.set_set,List.set_set,ok1,ok2,ZgY hk]
 ·simp at hp
end
section
variable {Bs:World→Prop}
variable {P:Program} {μ μ' μ0:Mp Bs} {h h' h0:Zd} {w w' w0:World}
theorem Ext.length_le (e:Ext μ h w μ' h' w'):h.length≤h'.length:=e.len
mutual
theorem ZfQ:∀ a:AV,ren (fun l=>l) a=a
 | .agg cs=>by simp only [ren,W4 cs]
 | .tup cs=>by simp only [ren,W4 cs]
 | .fn _ cs=>by simp only [ren,W4 cs]
 | .bnd _ cs=>by simp only [ren,W4 cs]
 | .iface _ a=>by simp only [ren,ZfQ a]
 | .ptr _ _=>rfl
 | .own _ _=>rfl
 | .optr _ _ _ _=>rfl
 | .mp _=>rfl
 | .tptr _ _ _=>rfl
 | .town _ _ _=>rfl
 | .int _ _=>rfl
 | .bool _=>rfl
 | .str _=>rfl
 | .nilp=>rfl
 | .nilf=>rfl
 | .nili=>rfl
 | .emp _=>rfl
 | .nilm=>rfl
 | .nils=>rfl
 | .rows _=>rfl
 | .lit _=>rfl
 | .rptr _ _=>rfl
 | .any=>rfl
theorem W4:∀ l:List AV,XI (fun l=>l) l=l
 | []=>rfl
 | a::r=>by simp only [XI,ZfQ a,W4 r]
end
theorem Zmv:∀ rs:List (List AV),XK (fun l=>l) rs=rs
 | []=>rfl
 | r::rs=>by simp only [XK,W4 r,Zmv rs]
theorem RowsN.each {μ':Mp Bs} {h':Zd} {w':World} {z:Nat} {rs:List (List AV)} {vs:Array Value} (F:∀ (a:AV) (v:Value),(∀ i,i∈Zm a→i∈ZL rs)→Rep μ h w a v→Rep μ' h' w' a v) (r:RowsN μ h w z rs vs):RowsN μ' h' w' z rs vs:=by
 intro i row hrow
 obtain ⟨h1,h2,h3⟩:=r i row hrow
 refine ⟨h1,h2,fun c a ha=>?_⟩
 obtain ⟨v,h4,h5⟩:=h3 c a ha
 exact ⟨v,h4,F a v (fun i hi=>ZeU (List.mem_of_getElem? hrow) (Zfn (List.mem_of_getElem? ha) hi)) h5⟩
theorem Zh4 (b:Blk):Zap (fun l=>l) b=b:=by
 cases b with
 | cells cs=>simp only [Zap,W4]
 | rows z rs wr=>simp only [Zap,Zmv]
 | hole=>rfl
 | map es=>rfl
theorem ZcS {n l:Nat} (hl:l < n):(h.take n)[l]? = h[l]? := by rw [List.getElem?_take,if_pos hl]
theorem JO {n l:Nat} {k:Blk} (e:(h.take n)[l]? = some k):l < n∧h[l]? = some k:=by
 rw [List.getElem?_take] at e
 split at e
 ·rename_i hl;exact ⟨hl,e⟩
 ·simp at e
theorem Zcd {n b o:Nat} (hm:Mut μ (h.take n) b o):Mut μ h b o:=by
 rcases hm with ho | ⟨l,k,hl,hm,ho⟩
 ·exact .inl ho
 ·exact .inr ⟨l,k,(JO hl).2,hm,ho⟩
theorem QK {n:Nat}:Zaw (Mut μ h) w (Mut μ (h.take n)) w:=fun _ _ _ hc hm=>⟨hc,fun hx=>hm (Zcd hx)⟩
theorem Zpe {n l:Nat} (hl:l < n):XM μ h μ (h.take n) (fun l=>l) l:=fun k hk=>⟨by rw [Zh4];show (h.take n)[l]? = some k;rw [ZcS hl];exact hk,rfl⟩
theorem Rep.cut {n:Nat} {a:AV} {v:Value} (hn:∀ l,l∈Zm a→l < n) (r:Rep μ h w a v):Rep μ (h.take n) w a v:=by
 have:=Rep.ren (μ':=μ) (h':=h.take n) (σ:=fun l=>l) (fun b o hx=>Zcd hx) a v (fun l hl=>Zpe (hn l hl)) r
 rwa [ZfQ] at this
theorem RepL.cut {n:Nat} {a:List AV} {v:List Value} (hn:∀ l,l∈Zk a→l < n) (r:RepL μ h w a v):RepL μ (h.take n) w a v:=by
 have:=RepL.ren (μ':=μ) (h':=h.take n) (σ:=fun l=>l) (fun b o hx=>Zcd hx) a v (fun l hl=>Zpe (hn l hl)) r
 rwa [W4] at this
theorem Rel.cut {n:Nat} (hr:Rel μ h w) (hu:Z6 n (ZP (h.take n))=true):Rel μ (h.take n) w where
 inj:=fun l l' b hl hl'=>hr.inj l l' b (by simp at hl;omega) (by simp at hl';omega)
 blk:=fun l k hl=>by
  obtain ⟨hlt,hl'⟩:=JO hl
  have:=hr.blk l k hl'
  cases k with
  | cells cs =>
   obtain ⟨b,vs,T,h1,h2,h3,h4⟩:=this
   exact ⟨b,vs,T,h1,h2,h3,RepL.cut (fun i hi=>Yo hu i (YP hl i hi)) h4⟩
  | rows z rs wr =>
   rcases this with h1 | ⟨b,vs,T,h1,h2,h3,h4⟩
   ·exact .inl h1
   ·exact .inr ⟨b,vs,T,h1,h2,h3,h4.each fun a v hi r=>Rep.cut (fun i hx=>Yo hu i (YP hl i (hi i hx))) r⟩
  | hole=>exact this
  | map es =>
   obtain ⟨b,ms,c,h1,h2,h3⟩:=this
   exact ⟨b,ms,c,h1,h2,h3.keep QK⟩
 apart:=fun l b o hl=>hr.apart l b o (by simp at hl;omega)
 old:=hr.old
 still:=fun b hb=>⟨(hr.still b hb).1,fun l hl=>(hr.still b hb).2 l (by simp at hl;omega)⟩
 base:=hr.base
theorem Ext.cut {n:Nat} (e:Ext μ0 h0 w0 μ h w) (hn:h0.length≤n):Ext μ0 h0 w0 μ (h.take n) w where
 out:=e.out
 still:=e.still
 os:=e.os
 tape:=e.tape
 output:=e.output
 size:=e.size
 keep:=fun b o v hc hm=>by
  obtain ⟨h1,h2⟩:=e.keep b o v hc hm
  exact ⟨h1,fun hx=>h2 (Zcd hx)⟩
 outside:=fun b hb ho=>by
  obtain ⟨h1,h2⟩:=e.outside b hb ho
  exact ⟨h1,fun l hl=>h2 l (by simp at hl;omega)⟩
 cells:=fun l cs hl=>by
  obtain ⟨⟨cs',h1⟩,h2⟩:=e.cells l cs hl
  have:=(List.getElem?_eq_some_iff.1 hl).1
  exact ⟨⟨cs',by rw [ZcS (by omega)];exact h1⟩,h2⟩
 rows:=fun l z rs wr hl=>by
  obtain ⟨rs',wr',h1,h2⟩:=e.rows l z rs wr hl
  have:=(List.getElem?_eq_some_iff.1 hl).1
  exact ⟨rs',wr',by rw [ZcS (by omega)];exact h1,h2⟩
 len:=by
  have:=e.len
  simp
  omega
 maps:=fun l es hl=>by
  obtain ⟨⟨es',h1⟩,h2⟩:=e.maps l es hl
  have:=(List.getElem?_eq_some_iff.1 hl).1
  exact ⟨⟨es',by rw [ZcS (by omega)];exact h1⟩,h2⟩
 sizes:=e.sizes
theorem FrRel.cut {n:Nat} {fr:Fr} {t:Array Value} (hu:Z6 n (Wj fr)=true) (hf:FrRel μ h w fr t):FrRel μ (h.take n) w fr t:=fun i=>by
 refine Rep.cut (fun l hl=>Yo hu l ?_) (hf i)
 exact get_locs fr i l hl
where
 get_locs:∀ (fr:Fr) (i l:Nat),l∈Zm (get fr i)→l∈Wj fr
  | [],i,l,hl=>by simp [get,Zm] at hl
  | (j,v)::r,i,l,hl=>by
   simp only [get] at hl
   simp only [Wj,List.mem_append]
   split at hl
   ·exact .inl hl
   ·exact .inr (get_locs r i l hl)
theorem ZdJ (fr:Fr):∀ (l:List Nat) (i:Nat),get (restr fr l) i=get fr i∨get (restr fr l) i=.any
 | [],i=>.inr rfl
 | j::r,i=>by
  simp only [restr,get]
  split
  ·rename_i h;subst h;exact .inl rfl
  ·exact ZdJ fr r i
theorem FrRel.restr {fr:Fr} {t:Array Value} (l:List Nat) (hf:FrRel μ h w fr t):FrRel μ h w (Go.Ab.restr fr l) t:=fun i=>by
 rcases ZdJ fr l i with e | e
 ·rw [e];exact hf i
 ·rw [e];exact trivial
theorem ZoL {l n:Nat} {v:Value} {z:Nat} {rs:List (List AV)} {wr:Bool} {M':Nat→Nat→Prop} (hr:Rel μ h w) (hl:h[l]? = some (.rows z rs wr)) (hn:rs.length=n) (hlz:ZL rs=[]) (hv:OwnRep μ h w l n v)
  (hM:∀ b o,M' b o→Mut μ h b o) (hno:∀ b o,μ l=some b→o < rs.length*z→¬M' b o):PRep M' w (.rows rs) v:=by
 obtain ⟨z',rs',wr',base,cap,hl',_,rfl,hv⟩:=hv
 rw [hl] at hl'
 simp only [Option.some.injEq,Blk.rows.injEq] at hl'
 obtain ⟨rfl,rfl,rfl⟩:=hl'
 obtain ⟨hc,_,hb⟩:=hv hn.symm
 refine ⟨base,cap,by rw [hn],by omega,?_⟩
 rcases hb with rfl | ⟨b,vs,T,rfl,hm,hw,_⟩
 ·left;exact List.length_eq_zero_iff.1 (by omega)
 ·rcases hr.blk l _ hl with ⟨h0,_⟩ | ⟨b',vs',T',hm',⟨fz,hw',_⟩,hlen,hin⟩
  ·exact .inl h0
  ·have e:b'=b:=by rw [hm] at hm';simpa using hm'.symm
   subst e
   right
   refine ⟨b',0,z,rfl,PRows.of_at rs 0 fun i row hrow=>?_⟩
   obtain ⟨h1,hs1,h3⟩:=hin.none hlz i row hrow
   refine ⟨h1,hs1,PMem.of_at row _ fun c a ha=>?_⟩
   obtain ⟨u,hu,hp⟩:=h3 c a ha
   have hi:i < rs.length:=(List.getElem?_eq_some_iff.1 hrow).1
   have hcl:c < z:=by rw [←h1];exact (List.getElem?_eq_some_iff.1 ha).1
   refine ⟨u,by simp only [World.cell?,hw'];simpa using hu,hno _ _ hm' ?_,PRep.keep (fun b o v hc hm=>⟨hc,fun hx=>hm (hM b o hx)⟩) _ _ hp⟩
   have:i*z+z≤rs.length*z:=by rw [←Nat.succ_mul];exact Nat.mul_le_mul_right z hi
   omega
theorem Zoo {l n:Nat} {v:Value} {z:Nat} {rs rs':List (List AV)} {wr:Bool} {M':Nat→Nat→Prop} (hr:Rel μ h w) (hl:h[l]? = some (.rows z rs wr)) (hn:rs.length=n) (hlz:rs'.length=rs.length∧∀ (i:Nat) (row':List AV),rs'[i]? = some row'→∃ row,rs[i]? = some row∧row'.length=row.length∧Zl row'=true∧∀ (c:Nat) (a':AV),row'[c]? = some a'→∃ a,row[c]? = some a∧∀ u,Rep μ h w a u→PRep M' w a' u) (hv:OwnRep μ h w l n v)
  (hM:∀ b o,M' b o→Mut μ h b o) (hno:∀ b o,μ l=some b→o < rs.length*z→¬M' b o):PRep M' w (.rows rs') v:=by
 obtain ⟨hlen',hcells⟩:=hlz
 obtain ⟨z',rs1,wr',base,cap,hl',_,rfl,hv⟩:=hv
 rw [hl] at hl'
 simp only [Option.some.injEq,Blk.rows.injEq] at hl'
 obtain ⟨rfl,rfl,rfl⟩:=hl'
 obtain ⟨hc,_,hb⟩:=hv hn.symm
 refine ⟨base,cap,by rw [hlen',hn],by omega,?_⟩
 rcases hb with rfl | ⟨b,vs,T,rfl,hm,hw,_⟩
 ·left;exact List.length_eq_zero_iff.1 (by omega)
 ·rcases hr.blk l _ hl with ⟨h0,_⟩ | ⟨b',vs',T',hm',⟨fz,hw',_⟩,hlen,hin⟩
  ·left;subst h0;exact List.length_eq_zero_iff.1 (by simpa using hlen')
  ·have e:b'=b:=by rw [hm] at hm';simpa using hm'.symm
   subst e
   right
   refine ⟨b',0,z,rfl,PRows.of_at rs' 0 fun i row' hrow'=>?_⟩
   obtain ⟨row,hrow,g1,g2,g3⟩:=hcells i row' hrow'
   obtain ⟨h1,hs1,h3⟩:=hin i row hrow
   refine ⟨by omega,g2,PMem.of_at row' _ fun c a' ha'=>?_⟩
   obtain ⟨a,ha,hpr⟩:=g3 c a' ha'
   obtain ⟨u,hu,hp⟩:=h3 c a ha
   have hi:i < rs.length:=(List.getElem?_eq_some_iff.1 hrow).1
   have hcl:c < z:=by rw [←h1];exact (List.getElem?_eq_some_iff.1 ha).1
   refine ⟨u,by simp only [World.cell?,hw'];simpa using hu,hno _ _ hm' ?_,hpr u hp⟩
   have:i*z+z≤rs.length*z:=by rw [←Nat.succ_mul];exact Nat.mul_le_mul_right z hi
   omega
theorem Zns {k l n:Nat} {v:Value} {z:Nat} {rs rs':List (List AV)} {wr:Bool} (hr:Rel μ h w) (hl:h[l]? = some (.rows z rs wr)) (hn:rs.length=n) (hlz:rs'.length=rs.length∧∀ (i:Nat) (row':List AV),rs'[i]? = some row'→∃ row,rs[i]? = some row∧row'.length=row.length∧Zl row'=true∧∀ (c:Nat) (a':AV),row'[c]? = some a'→∃ a,row[c]? = some a∧∀ u,Rep μ h w a u→PRep (Mut μ (h.take k)) w a' u) (hk:k≤l∨wr=false) (hv:OwnRep μ h w l n v) :
  PRep (Mut μ (h.take k)) w (.rows rs') v:=by
 refine Zoo hr hl hn hlz hv (fun b o hx=>Zcd hx) fun b o hm' hlt2=>?_
 rintro (ho | ⟨l2,k2,hk2,hm2,ho⟩)
 ·exact hr.apart l b _ (List.getElem?_eq_some_iff.1 hl).1 hm' ho
 obtain ⟨hlk,hk2⟩:=JO hk2
 have hlt:l2 < h.length:=(List.getElem?_eq_some_iff.1 hk2).1
 have hlt':l < h.length:=(List.getElem?_eq_some_iff.1 hl).1
 have e:=hr.inj l2 l b hlt hlt' hm2 hm'
 subst e
 rw [hl] at hk2
 simp only [Option.some.injEq] at hk2
 subst hk2
 rcases hk with hk | hk
 ·omega
 ·rcases ho with ho | ho
  ·rw [hk] at ho;simp at ho
  ·rw [Nat.mul_comm] at ho
   omega
theorem ZaM {l b o:Nat} (hl:l < h.length) (hx:Mut (μ.set l none) (h.set l .hole) b o):Mut μ h b o:=by
 rcases hx with ho | ⟨l',k,hk,hm,ho⟩
 ·exact .inl ho
 ·by_cases hll:l=l'
  ·subst hll
   rw [Zv] at hm
   simp at hm
  ·rw [Zj _ (fun e=>hll e.symm)] at hm
   rw [List.getElem?_set_ne hll] at hk
   exact .inr ⟨l',k,hk,hm,ho⟩
theorem Zm0 {l l':Nat} (hll:l'≠l):XM μ h (μ.set l none) (h.set l .hole) (fun l=>l) l':=fun k hk=>by
 refine ⟨?_,Zj _ hll⟩
 rw [Zh4,List.getElem?_set_ne (fun e=>hll e.symm)]
 exact hk
theorem Zfu {l:Nat} (hl:l < h.length) {a:AV} {v:Value} (hn:l∉Zm a) (r:Rep μ h w a v):Rep (μ.set l none) (h.set l .hole) w a v:=by
 have:=Rep.ren (μ':=μ.set l none) (h':=h.set l .hole) (σ:=fun l=>l) (fun b o hx=>ZaM hl hx) a v (fun l' hl'=>Zm0 fun e=>hn (e▸hl')) r
 rwa [ZfQ] at this
theorem ZnN {l:Nat} (hl:l < h.length) {a:List AV} {v:List Value} (hn:l∉Zk a) (r:RepL μ h w a v):RepL (μ.set l none) (h.set l .hole) w a v:=by
 have:=RepL.ren (μ':=μ.set l none) (h':=h.set l .hole) (σ:=fun l=>l) (fun b o hx=>ZaM hl hx) a v (fun l' hl'=>Zm0 fun e=>hn (e▸hl')) r
 rwa [W4] at this
theorem Zll {l:Nat} (hl:l < h.length):Zaw (Mut μ h) w (Mut (μ.set l none) (h.set l .hole)) w:=fun _ _ _ hc hm=>⟨hc,fun hx=>hm (ZaM hl hx)⟩
theorem Rel.toHole {l:Nat} (hr:Rel μ h w) (hl:l < h.length) (hn:l∉ZP h):Rel (μ.set l none) (h.set l .hole) w where
 inj:=fun l1 l2 b hl1 hl2 hm1 hm2=>by
  simp only [List.length_set] at hl1 hl2
  by_cases h1:l1=l
  ·subst h1;rw [Zv] at hm1;simp at hm1
  ·by_cases h2:l2=l
   ·subst h2;rw [Zv] at hm2;simp at hm2
   ·rw [Zj _ h1] at hm1
    rw [Zj _ h2] at hm2
    exact hr.inj l1 l2 b hl1 hl2 hm1 hm2
 blk:=fun l' k hk=>by
  by_cases hll:l=l'
  ·subst hll
   rw [List.getElem?_set_self hl] at hk
   simp only [Option.some.injEq] at hk
   subst hk
   exact Zv _ _
  ·have hne:l'≠l:=fun e=>hll e.symm
   rw [List.getElem?_set_ne hll] at hk
   have:=hr.blk l' k hk
   cases k with
   | cells cs =>
    obtain ⟨b,vs,T,h1,h2,h3,h4⟩:=this
    exact ⟨b,vs,T,by rw [Zj _ hne];exact h1,h2,h3,ZnN hl (fun hx=>hn (YP hk _ hx)) h4⟩
   | rows z rs wr =>
    rcases this with h1 | ⟨b,vs,T,h1,h2,h3,h4⟩
    ·exact .inl ⟨h1.1,by rw [Zj _ hne];exact h1.2⟩
    ·exact .inr ⟨b,vs,T,by rw [Zj _ hne];exact h1,h2,h3,h4.each fun a v hi r=>Zfu hl (fun hx=>hn (YP hk _ (hi _ hx))) r⟩
   | hole =>
    show (μ.set l none) l'=none
    rw [Zj _ hne];exact this
   | map es =>
    obtain ⟨b,ms,c,h1,h2,h3⟩:=this
    exact ⟨b,ms,c,by rw [Zj _ hne];exact h1,h2,h3.keep (Zll hl)⟩
 apart:=fun l' b o hl' hm ho=>by
  by_cases h1:l'=l
  ·subst h1;rw [Zv] at hm;simp at hm
  ·rw [Zj _ h1] at hm
   exact hr.apart l' b o (by simpa using hl') hm ho
 old:=hr.old
 still:=fun b hb=>⟨(hr.still b hb).1,fun l' hl' hm=>by
  by_cases h1:l'=l
  ·subst h1;rw [Zv] at hm;simp at hm
  ·rw [Zj _ h1] at hm
   exact (hr.still b hb).2 l' (by simpa using hl') hm⟩
 base:=hr.base
theorem Ext.toHole {l:Nat} (e:Ext μ0 h0 w0 μ h w) (hl:l < h.length) (hk:h0.length≤l):Ext μ0 h0 w0 (μ.set l none) (h.set l .hole) w where
 out:=e.out
 still:=e.still
 os:=e.os
 tape:=e.tape
 output:=e.output
 size:=e.size
 len:=by simpa using e.len
 keep:=fun b o v hc hm=>by
  obtain ⟨h1,h2⟩:=e.keep b o v hc hm
  exact ⟨h1,fun hx=>h2 (ZaM hl hx)⟩
 outside:=fun b hb ho=>by
  obtain ⟨h1,h2⟩:=e.outside b hb ho
  refine ⟨h1,fun l' hl'=>?_⟩
  by_cases h3:l'=l
  ·subst h3;rw [Zv];simp
  ·rw [Zj _ h3];exact h2 l' (by simpa using hl')
 cells:=fun l' cs hl'=>by
  obtain ⟨⟨cs',h1⟩,h2⟩:=e.cells l' cs hl'
  have:=(List.getElem?_eq_some_iff.1 hl').1
  exact ⟨⟨cs',by rw [List.getElem?_set_ne (by omega)];exact h1⟩,by rw [Zj _ (by omega)];exact h2⟩
 rows:=fun l' z rs wr hl'=>by
  obtain ⟨rs',wr',h1,h2,h3⟩:=e.rows l' z rs wr hl'
  have:=(List.getElem?_eq_some_iff.1 hl').1
  exact ⟨rs',wr',by rw [List.getElem?_set_ne (by omega)];exact h1,h2,fun q=>by rw [Zj _ (by omega)];exact h3 q⟩
 maps:=fun l' es hl'=>by
  obtain ⟨⟨es',h1⟩,h2⟩:=e.maps l' es hl'
  have:=(List.getElem?_eq_some_iff.1 hl').1
  exact ⟨⟨es',by rw [List.getElem?_set_ne (by omega)];exact h1⟩,by rw [Zj _ (by omega)];exact h2⟩
 sizes:=e.sizes
theorem QJ {t:Array Value} {k:Nat} {live:List Nat} (hk:h0.length=k):∀ (is:List Nat) (fr fr':Fr) (h h':Zd) (μ:Mp Bs),Rel μ h w→Ext μ0 h0 w0 μ h w→FrRel μ h w fr t→frz k live is fr h=some (fr',h')→∃ μ',Rel μ' h' w∧Ext μ0 h0 w0 μ' h' w∧FrRel μ' h' w fr' t
 | [],fr,fr',h,h',μ,hr,ex,hf,e=>by
  simp only [frz,Option.some.injEq,Prod.mk.injEq] at e
  obtain ⟨rfl,rfl⟩:=e
  exact ⟨μ,hr,ex,hf⟩
 | i::is,fr,fr',h,h',μ,hr,ex,hf,e=>by
  have cons:∀ {rs:List (List AV)},PRep (Mut μ h) w (.rows rs) (t.getD i undef)→FrRel μ h w ((i,.rows rs)::fr) t:=fun {rs} hp j=>by
   simp only [get]
   split
   ·rename_i hij;subst hij;exact Rep.pure _ _ hp
   ·exact hf j
  simp only [frz] at e
  split at e
  ·rename_i l n hx
   split at e
   ·rename_i z rs wr hl
    split at e
    ·rename_i hc
     obtain ⟨c1,c2,cz,c3,c4⟩:=hc
     have hlt:l < h.length:=(List.getElem?_eq_some_iff.1 hl).1
     have c3':l∉Wj (restr ((i,.rows rs)::fr) live):=by simpa using c3
     have c4':l∉ZP h:=by simpa using c4
     have hv:=hf i
     rw [hx] at hv
     have hp:PRep (Mut (μ.set l none) (h.set l .hole)) w (.rows rs) (t.getD i undef):=ZoL hr hl c1 cz hv (fun b o hx=>ZaM hlt hx) fun b o hm _ hx=>by
      rcases hx with ho | ⟨l',k',hk',hm',_⟩
      ·exact hr.apart l b o hlt hm ho
      ·by_cases h1:l'=l
       ·subst h1;rw [Zv] at hm';simp at hm'
       ·rw [Zj _ h1] at hm'
        rw [List.getElem?_set_ne (fun e=>h1 e.symm)] at hk'
        exact h1 (hr.inj l' l b (List.getElem?_eq_some_iff.1 hk').1 hlt hm' hm)
     refine QJ hk is _ _ _ _ _ (hr.toHole hlt c4') (ex.toHole hlt (by omega)) (fun j=>?_) e
     have hj:l∉Zm (get (restr ((i,.rows rs)::fr) live) j):=fun hx=>c3' (FrRel.cut.get_locs _ _ _ hx)
     rcases ZdJ ((i,.rows rs)::fr) live j with e1 | e1
     ·rw [e1] at hj ⊢
      simp only [get] at hj ⊢
      split
      ·rename_i hij;subst hij;exact Rep.pure _ _ hp
      ·rename_i hij
       simp only [hij,if_false] at hj
       exact Zfu hlt hj (hf j)
     ·rw [e1];exact trivial
    ·simp at e
   ·simp at e
  ·rename_i hx
   have hv:=hf i
   rw [hx] at hv
   have hv':t.getD i undef=.slice none 0 0:=hv
   exact QJ hk is _ _ _ _ _ hr ex ((cons (rs:=[]) ⟨none,0,hv',Nat.le_refl _,.inl rfl⟩).restr live) e
  ·rename_i rs hx
   have hv:=hf i
   rw [hx] at hv
   obtain ⟨base,hv',hb⟩:=hv
   exact QJ hk is _ _ _ _ _ hr ex ((cons ⟨base,rs.length,hv',Nat.le_refl _,hb⟩).restr live) e
  ·exact QJ hk is _ _ _ _ _ hr ex hf e
def Zd8 (μ:Mp Bs) (h:Zd) (w:World) (k:Nat) (sub:List (List AV)→Option (List (List AV))):Prop :=
 ∀ rs rs',(∀ (i:Nat) (row:List AV),rs[i]? = some row→Zl row=true)→sub rs=some rs'→rs'.length=rs.length∧∀ (i:Nat) (row':List AV),rs'[i]? = some row'→∃ row,rs[i]? = some row∧row'.length=row.length∧Zl row'=true∧∀ (c:Nat) (a':AV),row'[c]? = some a'→∃ a,row[c]? = some a∧∀ u,Rep μ h w a u→PRep (Mut μ (h.take k)) w a' u
theorem Zjl {l z:Nat} {rs:List (List AV)} {wr:Bool} (hr:Rel μ h w) (hl:h[l]? = some (.rows z rs wr)):∀ (i:Nat) (row:List AV),rs[i]? = some row→Zl row=true:=fun i row hrow=>by
 rcases hr.blk l _ hl with ⟨h0,_⟩ | ⟨b',vs',T',hm',_,hlen,hin⟩
 ·subst h0;simp at hrow
 ·exact (hin i row hrow).2.1
mutual
theorem Qy (hr:Rel μ h w) {keep:Bool} {k:Nat} {sub:List (List AV)→Option (List (List AV))} (hsub:Zd8 μ h w k sub):∀ (a a':AV) (v:Value),Yf sub keep k h a=some a'→Rep μ h w a v→Rep μ (h.take k) w a' v
 | .own l n,a',v,e,r=>by
  simp only [Yf] at e
  split at e
  ·rename_i z rs wr hl
   split at e
   ·rename_i hc
    split at e
    ·rename_i rs2 hs2
     simp only [Option.some.injEq] at e
     subst e
     exact Rep.pure _ _ (Zns hr hl hc.1 (hsub rs rs2 (fun i row hrow=>Zjl hr hl i row hrow) hs2) hc.2 r)
    ·simp at e
   ·simp at e
  ·simp at e
 | .nils,a',v,e,r=>by
  simp only [Yf,Option.some.injEq] at e
  subst e
  have:v=.slice none 0 0:=r
  subst this
  cases keep with
  | true=>exact rfl
  | false=>exact ⟨none,0,rfl,Nat.le_refl _,.inl rfl⟩
 | .lit rs,a',v,e,r=>by
  simp only [Yf,Option.some.injEq] at e
  subst e
  obtain ⟨base,hv,hb⟩:=PRep.keep (QK (n:=k)) (.lit rs) v r
  exact ⟨base,rs.length,hv,Nat.le_refl _,hb⟩
 | .agg cs,a',v,e,r=>by
  simp only [Yf] at e
  split at e
  ·rename_i cs' hcs
   simp only [Option.some.injEq] at e
   subst e
   obtain ⟨vs,hv,r⟩:=r
   exact ⟨vs,hv,X7 hr hsub cs cs' vs hcs r⟩
  ·simp at e
 | .tup cs,a',v,e,r=>by
  simp only [Yf] at e
  split at e
  ·rename_i cs' hcs
   simp only [Option.some.injEq] at e
   subst e
   obtain ⟨vs,hv,r⟩:=r
   exact ⟨vs,hv,X7 hr hsub cs cs' vs hcs r⟩
  ·simp at e
 | .fn _ cs,a',v,e,r=>by
  simp only [Yf] at e
  split at e
  ·rename_i cs' hcs
   simp only [Option.some.injEq] at e
   subst e
   obtain ⟨vs,hv,r⟩:=r
   exact ⟨vs,hv,X7 hr hsub cs cs' vs hcs r⟩
  ·simp at e
 | .bnd _ cs,a',v,e,r=>by
  simp only [Yf] at e
  split at e
  ·rename_i cs' hcs
   simp only [Option.some.injEq] at e
   subst e
   obtain ⟨vs,hv,r⟩:=r
   exact ⟨vs,hv,X7 hr hsub cs cs' vs hcs r⟩
  ·simp at e
 | .iface _ a,a',v,e,r=>by
  simp only [Yf] at e
  split at e
  ·rename_i a1 ha
   simp only [Option.some.injEq] at e
   subst e
   obtain ⟨x,hv,r⟩:=r
   exact ⟨x,hv,Qy hr hsub a a1 x ha r⟩
  ·simp at e
 | .ptr l o,a',v,e,r=>by
  simp only [Yf] at e
  split at e
  ·rename_i hl
   simp only [Option.some.injEq] at e
   subst e
   exact Rep.cut (fun i hi=>by simp [Zm] at hi;omega) r
  ·simp at e
 | .town _ _ _,_,_,e,_=>by simp [Yf] at e
 | .tptr t l o,a',v,e,r=>by
  simp only [Yf] at e
  split at e
  ·rename_i hl
   simp only [Option.some.injEq] at e
   subst e
   exact Rep.cut (fun i hi=>by simp [Zm] at hi;omega) r
  ·simp at e
 | .mp l,a',v,e,r=>by
  simp only [Yf] at e
  split at e
  ·rename_i hl
   simp only [Option.some.injEq] at e
   subst e
   exact Rep.cut (fun i hi=>by simp [Zm] at hi;omega) r
  ·simp at e
 | .optr _ _ _ _,_,_,e,_=>by simp [Yf] at e
 | .int _ _,_,_,e,r=>by simp only [Yf,Option.some.injEq] at e;subst e;exact r
 | .bool _,_,_,e,r=>by simp only [Yf,Option.some.injEq] at e;subst e;exact r
 | .str _,_,_,e,r=>by simp only [Yf,Option.some.injEq] at e;subst e;exact r
 | .nilp,_,_,e,r=>by simp only [Yf,Option.some.injEq] at e;subst e;exact r
 | .nilf,_,_,e,r=>by simp only [Yf,Option.some.injEq] at e;subst e;exact r
 | .nili,_,_,e,r=>by simp only [Yf,Option.some.injEq] at e;subst e;exact r
 | .emp _,_,_,e,r=>by simp only [Yf,Option.some.injEq] at e;subst e;exact r
 | .nilm,_,_,e,r=>by simp only [Yf,Option.some.injEq] at e;subst e;exact r
 | .rows rs,_,v,e,r=>by simp only [Yf,Option.some.injEq] at e;subst e;exact PRep.keep QK (.rows rs) v r
 | .rptr row o,_,v,e,r=>by simp only [Yf,Option.some.injEq] at e;subst e;exact PRep.keep QK (.rptr row o) v r
 | .any,_,_,e,_=>by simp only [Yf,Option.some.injEq] at e;subst e;exact trivial
theorem X7 (hr:Rel μ h w) {keep:Bool} {k:Nat} {sub:List (List AV)→Option (List (List AV))} (hsub:Zd8 μ h w k sub):∀ (l l':List AV) (vs:List Value),Z7 sub keep k h l=some l'→RepL μ h w l vs→RepL μ (h.take k) w l' vs
 | [],_,_,e,r=>by simp only [Z7,Option.some.injEq] at e;subst e;exact r
 | a::r,l',vs,e,x=>by
  simp only [Z7] at e
  split at e
  ·rename_i a1 h1
   split at e
   ·rename_i r1 h2
    simp only [Option.some.injEq] at e
    subst e
    obtain ⟨v,vr,hv,x1,x2⟩:=x
    exact ⟨v,vr,hv,Qy hr hsub a a1 v h1 x1,X7 hr hsub r r1 vr h2 x2⟩
   ·simp at e
  ·simp at e
end
theorem Zc0 {k:Nat} {f:List (List AV)→Option (List (List AV))} (hf:Zd8 μ h w k f):Zd8 μ h w k (Xu f):=fun rs rs' hs e=>by
 unfold Xu at e
 split at e
 ·rename_i hz
  simp only [Option.some.injEq] at e
  subst e
  refine ⟨rfl,fun i row hrow=>⟨row,hrow,rfl,hs i row hrow,fun c a ha=>⟨a,ha,fun u hu=>?_⟩⟩⟩
  exact PRep.keep QK a u (Rep.none a u (JJ (Zbs hz (List.mem_of_getElem? hrow)) (List.mem_of_getElem? ha)) hu)
 ·exact hf rs rs' hs e
theorem Ze3 {keep:Bool} {k:Nat} {sub:List (List AV)→Option (List (List AV))}:∀ (l l':List AV),Z7 sub keep k h l=some l'→∀ (c:Nat) (a':AV),l'[c]? = some a'→∃ a,l[c]? = some a∧Yf sub keep k h a=some a'
 | [],_,e,c,a',ha=>by simp only [Z7,Option.some.injEq] at e;subst e;simp at ha
 | a::r,l',e,c,a',ha=>by
  simp only [Z7] at e
  split at e
  ·rename_i a1 h1
   split at e
   ·rename_i r1 h2
    simp only [Option.some.injEq] at e
    subst e
    cases c with
    | zero=>simp only [List.getElem?_cons_zero,Option.some.injEq] at ha;subst ha;exact ⟨a,rfl,h1⟩
    | succ c =>
     obtain ⟨x,hx,hl⟩:=Ze3 r r1 h2 c a' (by simpa using ha)
     exact ⟨x,by simpa using hx,hl⟩
   ·simp at e
  ·simp at e
theorem JZ (hr:Rel μ h w) {keep:Bool} {k:Nat} {sub:List (List AV)→Option (List (List AV))} (hsub:Zd8 μ h w k sub):Zd8 μ h w k (ZZ (Z7 sub keep k h))
 | [],rs',_,e=>by simp only [ZZ,Option.some.injEq] at e;subst e;exact ⟨rfl,fun i row hrow=>by simp at hrow⟩
 | row::r,rs',hs,e=>by
  simp only [ZZ] at e
  split at e
  ·rename_i row1 h1
   split at e
   ·rename_i hc
    split at e
    ·rename_i r1 h2
     simp only [Option.some.injEq] at e
     subst e
     obtain ⟨q1,q2⟩:=JZ hr hsub r r1 (fun i row hrow=>hs (i+1) row (by simpa using hrow)) h2
     refine ⟨by simp [q1],fun i row' hrow'=>?_⟩
     cases i with
     | zero =>
      simp only [List.getElem?_cons_zero,Option.some.injEq] at hrow'
      subst hrow'
      refine ⟨row,rfl,hc.2.1,hc.2.2,fun c a' ha=>?_⟩
      obtain ⟨a,ha2,hl⟩:=Ze3 _ _ h1 c a' ha
      exact ⟨a,ha2,fun u hu=>Rep.none a' u (JJ hc.1 (List.mem_of_getElem? ha)) (Qy hr hsub a a' u hl hu)⟩
     | succ i =>
      obtain ⟨x,hx,hl⟩:=q2 i row' (by simpa using hrow')
      exact ⟨x,by simpa using hx,hl⟩
    ·simp at e
   ·simp at e
  ·simp at e
theorem ZsI {k:Nat}:Zd8 μ h w k (fun _=>none):=fun _ _ _ e=>by simp at e
theorem Zom (hr:Rel μ h w) {keep:Bool} {k:Nat}:Zd8 μ h w k (ZbZ keep k h) :=
 Zc0 (JZ hr (Zc0 (JZ hr (Zc0 ZsI))))
theorem ZdV (hr:Rel μ h w) {keep:Bool} {k:Nat} (a a':AV) (v:Value) (e:Zgu keep k h a=some a') (r:Rep μ h w a v):Rep μ (h.take k) w a' v:=Qy hr (Zom hr) a a' v e r
theorem ZkW {k l n:Nat} {v:Value} {z:Nat} {rs:List (List AV)} {wr:Bool} (hr:Rel μ h w) (e:Ext μ0 h0 w0 μ h w) (hk0:h0.length=k) (hu:Z6 k (ZP (h.take k))=true) (hl:h[l]? = some (.rows z rs wr)) (hn:rs.length=n) (hk:k≤l) (hlz:ZL rs=[]) (hv:OwnRep μ h w l n v) :
  ∃ μ',Rel μ' (h.take k++[.rows z rs wr]) w∧Ext μ0 h0 w0 μ' (h.take k++[.rows z rs wr]) w∧Rep μ' (h.take k++[.rows z rs wr]) w (.own k n) v:=by
 have hlt:l < h.length:=(List.getElem?_eq_some_iff.1 hl).1
 have hlen:(h.take k).length=k:=by simp;omega
 have hat:∀ i,i < k→(h.take k++[Blk.rows z rs wr])[i]? = (h.take k)[i]? := fun i hi=>List.getElem?_append_left (by omega)
 have hnew:(h.take k++[Blk.rows z rs wr])[k]? = some (.rows z rs wr):=by
  rw [List.getElem?_append_right (by omega),hlen];simp
 have hmut:∀ b o,Mut (μ.set k (μ l)) (h.take k++[Blk.rows z rs wr]) b o→Mut μ h b o:=by
  rintro b o (ho | ⟨i,b',hi,hm,ho⟩)
  ·exact .inl ho
  ·by_cases hik:i=k
   ·subst hik
    rw [Zv] at hm
    rw [hnew] at hi
    simp only [Option.some.injEq] at hi
    subst hi
    exact .inr ⟨l,_,hl,hm,ho⟩
   ·have hi':i < k:=by
     have:=(List.getElem?_eq_some_iff.1 hi).1
     simp only [List.length_append,hlen,List.length_singleton] at this
     omega
    rw [hat i hi'] at hi
    rw [Zj _ hik] at hm
    exact .inr ⟨i,b',(JO hi).2,hm,ho⟩
 have hkeeps:Zaw (Mut μ h) w (Mut (μ.set k (μ l)) (h.take k++[Blk.rows z rs wr])) w:=fun b o v hc hm=>⟨hc,fun hx=>hm (hmut b o hx)⟩
 have hka:∀ i,i < k→XM μ h (μ.set k (μ l)) (h.take k++[Blk.rows z rs wr]) (fun l=>l) i:=fun i hi k' hk' =>
  ⟨by rw [Zh4];show (h.take k++[Blk.rows z rs wr])[i]? = some k';rw [hat i hi,ZcS hi];exact hk',Zj (l:=k) (i:=i) _ (by omega)⟩
 refine ⟨μ.set k (μ l),⟨?_,?_,?_,?_,?_,hr.base⟩,?_,?_⟩
 ·intro i j b hi hj hmi hmj
  simp only [List.length_append,hlen,List.length_singleton] at hi hj
  by_cases h1:i=k<;>by_cases h2:j=k
  ·omega
  ·subst h1
   rw [Zv] at hmi
   rw [Zj _ h2] at hmj
   have:=hr.inj l j b hlt (by omega) hmi hmj
   omega
  ·subst h2
   rw [Zv] at hmj
   rw [Zj _ h1] at hmi
   have:=hr.inj l i b hlt (by omega) hmj hmi
   omega
  ·rw [Zj _ h1] at hmi
   rw [Zj _ h2] at hmj
   exact hr.inj i j b (by omega) (by omega) hmi hmj
 ·intro i b' hi
  by_cases hik:i=k
  ·subst hik
   rw [hnew] at hi
   simp only [Option.some.injEq] at hi
   subst hi
   rcases hr.blk l _ hl with ⟨h1,h2⟩ | ⟨b,vs,T,h1,h2,h3,h4⟩
   ·exact .inl ⟨h1,by rw [Zv];exact h2⟩
   ·exact .inr ⟨b,vs,T,by rw [Zv];exact h1,h2,h3,((h4.none hlz).keep hkeeps).some⟩
  ·have hi':i < k:=by
    have:=(List.getElem?_eq_some_iff.1 hi).1
    simp only [List.length_append,hlen,List.length_singleton] at this
    omega
   rw [hat i hi'] at hi
   have hi2:=(JO hi).2
   have:=hr.blk i b' hi2
   cases b' with
   | cells cs =>
    obtain ⟨b,vs,T,h1,h2,h3,h4⟩:=this
    refine ⟨b,vs,T,by rw [Zj _ hik];exact h1,h2,h3,?_⟩
    have:=RepL.ren (μ':=μ.set k (μ l)) (h':=h.take k++[Blk.rows z rs wr]) (σ:=fun l=>l) hmut cs vs (fun j hj=>hka j (Yo hu j (YP hi j hj))) h4
    rwa [W4] at this
   | rows z' rs' wr' =>
    rcases this with h1 | ⟨b,vs,T,h1,h2,h3,h4⟩
    ·exact .inl ⟨h1.1,by rw [Zj _ hik];exact h1.2⟩
    ·refine .inr ⟨b,vs,T,by rw [Zj _ hik];exact h1,h2,h3,h4.each fun a v hx r=>?_⟩
     have:=Rep.ren (μ':=μ.set k (μ l)) (h':=h.take k++[Blk.rows z rs wr]) (σ:=fun l=>l) hmut a v (fun j hj=>hka j (Yo hu j (YP hi j (hx j hj)))) r
     rwa [ZfQ] at this
   | hole =>
    show (μ.set k (μ l)) i=none
    rw [Zj _ hik];exact this
   | map es =>
    obtain ⟨b,ms,c,h1,h2,h3⟩:=this
    exact ⟨b,ms,c,by rw [Zj _ hik];exact h1,h2,h3.keep hkeeps⟩
 ·intro i b o hi hm ho
  simp only [List.length_append,hlen,List.length_singleton] at hi
  by_cases hik:i=k
  ·subst hik
   rw [Zv] at hm
   exact hr.apart l b o hlt hm ho
  ·rw [Zj _ hik] at hm
   exact hr.apart i b o (by omega) hm ho
 ·exact hr.old
 ·intro b hb
  refine ⟨(hr.still b hb).1,fun i hi=>?_⟩
  simp only [List.length_append,hlen,List.length_singleton] at hi
  by_cases hik:i=k
  ·subst hik
   rw [Zv];exact (hr.still b hb).2 l hlt
  ·rw [Zj _ hik];exact (hr.still b hb).2 i (by omega)
 ·have e1:=e.cut (n:=k) (by omega)
  exact {
   out:=e1.out
   still:=e1.still
   os:=e1.os
   tape:=e1.tape
   output:=e1.output
   size:=e1.size
   keep:=fun b o v hc hm=>by
    obtain ⟨h1,h2⟩:=e.keep b o v hc hm
    exact ⟨h1,fun hx=>h2 (hmut b o hx)⟩
   outside:=fun b hb ho=>by
    obtain ⟨h1,h2⟩:=e.outside b hb ho
    refine ⟨h1,fun i hi=>?_⟩
    simp only [List.length_append,hlen,List.length_singleton] at hi
    by_cases hik:i=k
    ·subst hik
     rw [Zv];exact h2 l hlt
    ·rw [Zj _ hik];exact h2 i (by omega)
   cells:=fun i cs hi=>by
    obtain ⟨⟨cs',h1⟩,h2⟩:=e1.cells i cs hi
    have:=(List.getElem?_eq_some_iff.1 hi).1
    exact ⟨⟨cs',by rw [hat i (by omega)];exact h1⟩,by rw [Zj _ (by omega)];exact h2⟩
   rows:=fun i z rs wr hi=>by
    obtain ⟨rs',wr',h1,h2,h3⟩:=e1.rows i z rs wr hi
    have:=(List.getElem?_eq_some_iff.1 hi).1
    exact ⟨rs',wr',by rw [hat i (by omega)];exact h1,h2,fun q=>by rw [Zj _ (by omega)];exact h3 q⟩
   len:=by simp only [List.length_append,hlen,List.length_singleton];omega
   maps:=fun i es hi=>by
    obtain ⟨⟨es',h1⟩,h2⟩:=e1.maps i es hi
    have:=(List.getElem?_eq_some_iff.1 hi).1
    exact ⟨⟨es',by rw [hat i (by omega)];exact h1⟩,by rw [Zj _ (by omega)];exact h2⟩
   sizes:=e1.sizes }
 ·obtain ⟨z',rs',wr',base,cap,hl',hle,rfl,hv⟩:=hv
  rw [hl] at hl'
  simp only [Option.some.injEq,Blk.rows.injEq] at hl'
  obtain ⟨rfl,rfl,rfl⟩:=hl'
  refine ⟨z,rs,wr,base,cap,hnew,hle,rfl,fun q=>?_⟩
  obtain ⟨h1,h2,h3⟩:=hv q
  refine ⟨h1,h2,?_⟩
  rcases h3 with h3 | ⟨b,vs,T,h3,h4,h5⟩
  ·exact .inl h3
  ·exact .inr ⟨b,vs,T,h3,by rw [Zv];exact h4,h5⟩
end
section
variable {Bs:World→Prop}
theorem Zpp {P:Program} {F:Tk→Res} (hF:X5 Bs P F):X5 Bs P (lv F):=by
 intro g args h r h' e
 unfold lv at e
 split at e
 ·rename_i g0 args0 heq
  simp only [Tk.call.injEq] at heq
  obtain ⟨rfl,rfl,rfl⟩:=heq
  unfold lvR at e
  split at e
  ·rename_i r0 hFr
   simp only [Option.some.injEq,Prod.mk.injEq] at e
   obtain ⟨rfl,rfl⟩:=e
   exact hF _ _ _ _ _ hFr
  ·rename_i r0 b hs hFr
   split at e
   ·rename_i a ha
    simp only [Option.some.injEq,Prod.mk.injEq] at e
    obtain ⟨rfl,rfl⟩:=e
    obtain ⟨h1,h2⟩:=hF _ _ _ _ _ hFr
    refine ⟨h1,fun μ w vs hr hv=>(h2 μ w vs hr hv).mono ?_⟩
    rintro e w' ⟨v,μ',he,q1,q2,q3⟩
    have hcut:Rel μ' ((b::hs).take 0) w':=q1.cut rfl
    exact ⟨v,μ',he,hcut,q2.cut (Nat.le_refl _),ZdV q1 _ _ _ ha q3⟩
   ·simp at e
  ·simp at e
 ·exact hF _ _ _ _ _ e
def Zdr (dy:List (Nat×Nat)) (i j:Nat) (oi oj:Oper):Bool :=
 if isQ dy i oi.op=true then (if isQ dy j oj.op=true then true else alo oj.op||(Xi oi.op).all fun s=>dy.contains (j,s))
 else if isQ dy j oj.op=true then alo oi.op||(Xi oj.op).all fun s=>dy.contains (i,s)
 else (alo oi.op&&alo oj.op)||((Znp oi.op&&alo oj.op)||((alo oi.op&&Znp oj.op)||(Jg oi oj&&((Xi oi.op).all (fun s=>dy.contains (j,s))&&(Xi oj.op).all fun s=>dy.contains (i,s)))))
def bit (B:List (List Nat)) (j i:Nat):Bool:=(B.getD j []).contains i
structure Ordered (dy:List (Nat×Nat)) (ops:Array Oper) (B:List (List Nat)):Prop where
 cert:∀ (j:Nat) (o:Oper),ops[j]? = some o→∀ i,bit B j i=true→∃ e,e∈o.after∧Region.binds .any e=true∧(e.on=i∨bit B e.on i=true)
 pair:∀ (i j:Nat) (oi oj:Oper),i < j→ops[i]? = some oi→ops[j]? = some oj→bit B j i=true∨(Oper.apart ops oi oj=true∧Zdr dy i j oi oj=true)
 dst:∀ (i j:Nat) (oi oj:Oper) (d:Nat),ops[i]? = some oi→ops[j]? = some oj→oi.dst=some d→oj.dst=some d→i=j
 reads:∀ (j:Nat) (o:Oper),ops[j]? = some o→∀ s,s∈Xi o.op→∀ (k:Nat) (ok:Oper),ops[k]? = some ok→ok.dst=some s→bit B j k=true
 lex:∀ (j:Nat) (o:Oper),ops[j]? = some o→∀ e,e∈o.after→Region.binds .any e=true→e.on < j
end
section
variable {Bs:World→Prop}
variable {μ:Mp Bs} {h:Zd} {w:World}
mutual
/-- No value names a place that is not filled yet. -/
theorem Rep.solid:∀ (a:AV) (v:Value),Rep μ h w a v→∀ l,l∈Zm a→h[l]? ≠ some .hole
 | .agg cs,_,r,l,hl=>by
  obtain ⟨vs,hv,r⟩:=r
  exact RepL.solid cs vs r l hl
 | .tup cs,_,r,l,hl=>by
  obtain ⟨vs,hv,r⟩:=r
  exact RepL.solid cs vs r l hl
 | .fn _ cs,_,r,l,hl=>by
  obtain ⟨vs,hv,r⟩:=r
  exact RepL.solid cs vs r l hl
 | .bnd _ cs,_,r,l,hl=>by
  obtain ⟨vs,hv,r⟩:=r
  exact RepL.solid cs vs r l hl
 | .iface _ a,_,r,l,hl=>by
  obtain ⟨x,hv,r⟩:=r
  exact Rep.solid a x r l hl
 | .ptr _ _,_,r,l,hl=>by
  obtain ⟨cs,b,h1,_⟩:=r
  simp only [Zm,List.mem_singleton] at hl
  subst hl
  rw [h1];simp
 | .own _ _,_,r,l,hl=>by
  obtain ⟨_,_,_,_,_,h1,_⟩:=r
  simp only [Zm,List.mem_singleton] at hl
  subst hl
  rw [h1];simp
 | .optr _ _ _ _,_,r,l,hl=>by
  obtain ⟨_,_,_,_,h1,_⟩:=r
  simp only [Zm,List.mem_singleton] at hl
  subst hl
  rw [h1];simp
 | .mp _,_,r,l,hl=>by
  obtain ⟨_,_,h1,_⟩:=r
  simp only [Zm,List.mem_singleton] at hl
  subst hl
  rw [h1];simp
 | .tptr _ _ _,_,r,l,hl=>by
  obtain ⟨_,_,h1,_⟩:=r
  simp only [Zm,List.mem_singleton] at hl
  subst hl
  rw [h1];simp
 | .town _ _ _,_,r,l,hl=>by
  obtain ⟨_,_,_,_,_,h1,_⟩:=r
  simp only [Zm,List.mem_singleton] at hl
  subst hl
  rw [h1];simp
 | .int _ _,_,_,_,hl=>by simp [Zm] at hl
 | .bool _,_,_,_,hl=>by simp [Zm] at hl
 | .str _,_,_,_,hl=>by simp [Zm] at hl
 | .nilp,_,_,_,hl=>by simp [Zm] at hl
 | .nilf,_,_,_,hl=>by simp [Zm] at hl
 | .nili,_,_,_,hl=>by simp [Zm] at hl
 | .emp _,_,_,_,hl=>by simp [Zm] at hl
 | .nilm,_,_,_,hl=>by simp [Zm] at hl
 | .nils,_,_,_,hl=>by simp [Zm] at hl
 | .rows _,_,_,_,hl=>by simp [Zm] at hl
 | .lit _,_,_,_,hl=>by simp [Zm] at hl
 | .rptr _ _,_,_,_,hl=>by simp [Zm] at hl
 | .any,_,_,_,hl=>by simp [Zm] at hl
theorem RepL.solid:∀ (c:List AV) (vs:List Value),RepL μ h w c vs→∀ l,l∈Zk c→h[l]? ≠ some .hole
 | [],_,_,_,hl=>by simp [Zk] at hl
 | a::r,_,x,l,hl=>by
  obtain ⟨v,vr,hv,h1,h2⟩:=x
  simp only [Zk,List.mem_append] at hl
  rcases hl with hl | hl
  ·exact Rep.solid a v h1 l hl
  ·exact RepL.solid r vr h2 l hl
end
end
section
variable {Bs:World→Prop}
variable {C:Cfg} {F:Tk→Res} {dy:List (Nat×Nat)} {pl:Nat→Nat} {ops:Array Oper} {B:List (List Nat)} {N:Nat}
def Real (Bs:World→Prop) (N:Nat) (g:Nat→AV) (h:Zd):Prop:=∃ (μ:Mp Bs) (w:World) (t:Array Value),t.size=N∧Rel μ h w∧∀ i,Rep μ h w (g i) (t.getD i undef)
theorem Zfg {P:Program} {o:Oper} {a:Act} {w:World} {R:Prop} (h:o.wp P a w (fun _ _=>R) (fun _ _ _=>False)):R:=by
 unfold Oper.wp at h
 generalize (execOp a.eval o).run P w=r at h
 cases r with
 | ok n w' =>
  cases n with
  | value v=>exact h
  | skip=>exact h
  | defer d=>exact h
  | enter f args =>
   obtain ⟨e,w'',fr,hR,_⟩:=h []
   cases e with
   | returned v=>exact hR
   | panicked c=>exact hR.elim
   | outgrown=>obtain ⟨_,_,hf⟩:=hR;exact hf.elim
  | row row args =>
   obtain ⟨v,w'',hR,_⟩:=h (Frame.ofRow P row args .normal) []
   exact hR
  | _=>exact False.elim h
 | halt x w'=>cases x<;>exact False.elim h
theorem Zkr {a:Act} {o:Oper} {i:Nat} {ev:Operand→AV} {μ:Mp Bs} {h h':Zd} {w:World} {x:AV} (hF:X5 Bs C.P F) (hr:Rel μ h w) (he:XB μ h w ev a.eval) (e:Xk C F dy pl i ev h o.op=some (x,h')):Wa C.P o a μ h w x h':=by
 unfold Xk at e
 split at e
 ·cases hd:ZH C (lv F) ev h o.op with
  | none=>simp [hd,val] at e
  | some v =>
   simp only [hd,val,Option.some.injEq,Prod.mk.injEq] at e
   obtain ⟨rfl,rfl⟩:=e
   exact ZaW (Zpp hF) hr he hd
 ·split at e
  ·exact Zlr hr he e
  ·exact ZdN hF hr he e
def FrG (μ:Mp Bs) (h:Zd) (w:World) (g:Nat→AV) (t:Array Value):Prop:=∀ i,Rep μ h w (g i) (t.getD i undef)
theorem Zsz {μ:Mp Bs} {h:Zd} {w:World} {g:Nat→AV} {a:Act} (hf:FrG μ h w g a.tmps):XB μ h w (evF g) a.eval:=fun y=>by
 cases y with
 | tmp t=>exact hf t
 | const v=>exact Rep.pure _ _ (XE v)
 | func f=>exact ⟨[],rfl,rfl⟩
 | global g=>trivial
theorem FrG.put {μ:Mp Bs} {h:Zd} {w:World} {g:Nat→AV} {a:Act} {d:Option Nat} {x:AV} {v:Value} (r:FrG μ h w g a.tmps) (hd:∀ i,d=some i→i < a.tmps.size) (hx:Rep μ h w x v):FrG μ h w (Jp g d x) (a.put d v).tmps:=by
 cases d with
 | none=>exact r
 | some i =>
  intro j
  have hi:=hd i rfl
  by_cases hij:i=j
  ·subst hij
   simp only [Jp,if_true,Act.put]
   simpa [Array.getD,hi] using hx
  ·simp only [Jp,if_neg hij,Act.put]
   have:(a.tmps.setIfInBounds i v).getD j undef=a.tmps.getD j undef:=by
    simp only [Array.getD_eq_getD_getElem?]
    rw [Array.getElem?_setIfInBounds_ne hij]
   rw [this]
   exact r j
theorem FrG.ext {μ μ':Mp Bs} {h h':Zd} {w w':World} (e:Ext μ h w μ' h' w') {g:Nat→AV} {t:Array Value} (r:FrG μ h w g t):FrG μ' h' w' g t:=fun i=>Rep.ext e _ _ (r i)
theorem Zhx {μ:Mp Bs} {h:Zd} {w:World} {g:Nat→AV} {t:Array Value} {o:Oper} {b:Bool} (hf:FrG μ h w g t) (e:XU ops g o=some b):Region.wanted o (yielded ops t)=b:=by
 unfold XU at e
 unfold Region.wanted
 split at e
 ·rename_i hg
  simp only [Option.some.injEq] at e
  subst e
  simp only [hg]
 ·rename_i j want hg
  simp only [hg]
  have slot:∀ {v:AV},ZdS g (XH ops.toList j)=v→v≠.any→∃ oj d,ops[j]? = some oj∧oj.dst=some d∧g d=v:=by
   intro v hv hne
   unfold XH at hv
   simp only [Array.getElem?_toList] at hv
   cases hj:ops[j]? with
   | none=>simp [hj,ZdS] at hv;exact absurd hv.symm hne
   | some oj =>
    simp only [hj] at hv
    cases hd:oj.dst with
    | none=>simp [hd,ZdS] at hv;exact absurd hv.symm hne
    | some d=>simp only [hd,ZdS] at hv;exact ⟨oj,d,rfl,hd,hv⟩
  split at e
  ·rename_i c hc
   simp only [Option.some.injEq] at e
   subst e
   obtain ⟨oj,d,h1,h2,h3⟩:=slot hc (by simp)
   have h4:=hf d
   rw [h3] at h4
   have h5:t.getD d undef=.bool c:=h4
   have hy:yielded ops t j=some c:=by
    unfold yielded
    rw [Array.getD_eq_getD_getElem?] at h5
    cases hv:t[d]? with
    | none=>simp [hv,undef] at h5
    | some v =>
     simp only [hv,Option.getD_some] at h5
     subst h5
     simp [h1,h2,hv]
   rw [hy]
   cases c<;>cases want<;>rfl
  ·rename_i hc
   simp only [Option.some.injEq] at e
   subst e
   obtain ⟨oj,d,h1,h2,h3⟩:=slot hc (by simp)
   have h4:=hf d
   rw [h3] at h4
   obtain ⟨vs,h5,h6⟩:=h4
   have h6':vs=[]:=h6
   subst h6'
   have hy:yielded ops t j=none:=by
    unfold yielded
    rw [Array.getD_eq_getD_getElem?] at h5
    cases hv:t[d]? with
    | none=>simp [h1,h2,hv]
    | some v =>
     simp only [hv,Option.getD_some] at h5
     subst h5
     simp [h1,h2,hv]
   rw [hy]
   rfl
  ·simp at e
theorem ZeP {a:Act} {o:Oper} {i:Nat} {g:Nat→AV} {h h':Zd} {μ:Mp Bs} {w:World} {x:AV} {T:List Nat} {Q:Exit→Act→World→Prop} {K:Act→World→Prop} (hF:X5 Bs C.P F) (ho:ops[i]? = some o)
  (hfit:∀ d,o.dst=some d→d < a.tmps.size) (hr:Rel μ h w) (hf:FrG μ h w g a.tmps) (e:Z8 C F dy pl ops i g h=some (x,h',T))
  (hK:∀ v μ' w',Rel μ' h' w'→Ext μ h w μ' h' w'→FrG μ' h' w' (Jp g o.dst x) (a.put o.dst v).tmps→K (a.put o.dst v) w'):wpOp C.P ops Q i K a w:=by
 unfold Z8 at e
 simp only [ho] at e
 unfold wpOp
 simp only [ho]
 cases hg:XU ops g o with
 | none=>simp [hg] at e
 | some b =>
  rw [Zhx hf hg]
  cases b with
  | true =>
   simp only [hg] at e
   split at e
   ·rename_i y h1 hs
    simp only [Option.some.injEq,Prod.mk.injEq] at e
    obtain ⟨rfl,rfl,_⟩:=e
    refine .inl (Zkr hF hr (Zsz hf) hs _ _ ?_)
    intro v μ' w' q1 q2 q3
    exact hK v μ' w' q1 q2 ((hf.ext q2).put hfit q3)
   ·simp at e
  | false =>
   simp only [hg,Option.some.injEq,Prod.mk.injEq] at e
   obtain ⟨rfl,rfl,_⟩:=e
   exact hK undef μ w hr (Ext.refl _ _ _) (hf.put hfit ZgC)
theorem Real.step {i:Nat} {o:Oper} {g:Nat→AV} {h h':Zd} {x:AV} {T:List Nat} (hF:X5 Bs C.P F) (ho:ops[i]? = some o) (hfit:OpsFit N ops) (r:Real Bs N g h) (e:Z8 C F dy pl ops i g h=some (x,h',T)):Real Bs N (Jp g o.dst x) h':=by
 obtain ⟨μ,w,t,hN,hr,hf⟩:=r
 have:=ZeP (Q:=fun _ _ _=>False) (K:=fun _ _=>Real Bs N (Jp g o.dst x) h') (a:=⟨t,[]⟩) hF ho (by rw [hN];exact hfit i o ho) hr hf e
  (fun v μ' w' q1 q2 q3=>⟨μ',w',_,by rw [Xv];exact hN,q1,q3⟩)
 unfold wpOp at this
 simp only [ho] at this
 split at this
 ·rcases this with h1 | ⟨_,_,_,h1⟩
  ·exact Zfg h1
  ·exact h1.elim
 ·exact this
theorem Real.solid {g:Nat→AV} {h:Zd} (r:Real Bs N g h) {s l:Nat} (hl:l∈Zm (g s)):h[l]? ≠ some .hole:=by
 obtain ⟨μ,w,t,_,_,hf⟩:=r
 exact Rep.solid _ _ (hf s) l hl
theorem Zkb:∀ {l:List AV} {x:Nat},x∈Zk l→∃ (c:Nat) (a:AV),l[c]? = some a∧x∈Zm a
 | [],x,hx=>by simp [Zk] at hx
 | a::r,x,hx=>by
  simp only [Zk,List.mem_append] at hx
  rcases hx with hx | hx
  ·exact ⟨0,a,rfl,hx⟩
  ·obtain ⟨c,a',h1,h2⟩:=Zkb hx
   exact ⟨c+1,a',by simpa using h1,h2⟩
theorem Real.blocks {g:Nat→AV} {h:Zd} (r:Real Bs N g h) {p:Nat} (hp:h[p]? = some .hole):∀ (l:Nat) (k:Blk),h[l]? = some k→p∉Xj k:=fun l k hk hx=>by
 obtain ⟨μ,w,t,_,hr,_⟩:=r
 have hb:=hr.blk l k hk
 cases k with
 | cells cs =>
  obtain ⟨b,vs,T,_,_,_,h4⟩:=hb
  exact RepL.solid cs vs h4 p hx hp
 | rows z rs wr =>
  rcases hb with ⟨h1,_⟩ | ⟨b,vs,T,_,_,_,h4⟩
  ·subst h1;simp [Xj,ZL] at hx
  ·have hz:∀ rs:List (List AV),p∈ZL rs→∃ (i:Nat) (row:List AV),rs[i]? = some row∧p∈Zk row:=by
    intro rs
    induction rs with
    | nil=>intro hx;simp [ZL] at hx
    | cons row r ih =>
     intro hx
     simp only [ZL,List.mem_append] at hx
     rcases hx with hx | hx
     ·exact ⟨0,row,rfl,hx⟩
     ·obtain ⟨i,row',h1,h2⟩:=ih hx
      exact ⟨i+1,row',by simpa using h1,h2⟩
   obtain ⟨i,row,h5,h6⟩:=hz rs hx
   obtain ⟨_,_,h7⟩:=h4 i row h5
   obtain ⟨c,a,h8,h9⟩:=Zkb h6
   obtain ⟨u,_,h10⟩:=h7 c a h8
   exact Rep.solid a u h10 p h9 hp
 | hole=>simp [Xj] at hx
 | map es=>simp [Xj] at hx
theorem Real.hole {i:Nat} {o:Oper} {g:Nat→AV} {h h':Zd} {x:AV} {T:List Nat} (hF:X5 Bs C.P F) (ho:ops[i]? = some o) (hfit:OpsFit N ops) (r:Real Bs N g h) (e:Z8 C F dy pl ops i g h=some (x,h',T)):∀ p,p < h.length→h'[p]? = some .hole→h[p]? = some .hole:=by
 obtain ⟨μ,w,t,hN,hr,hf⟩:=r
 have:=ZeP (Q:=fun _ _ _=>False) (K:=fun _ _=>∀ p,p < h.length→h'[p]? = some .hole→h[p]? = some .hole) (a:=⟨t,[]⟩) hF ho (by rw [hN];exact hfit i o ho) hr hf e
  (fun v μ' w' q1 q2 q3 p hp hh=>by
   cases hb:h[p]? with
   | none=>rw [List.getElem?_eq_none_iff] at hb;omega
   | some k =>
    cases k with
    | hole=>rfl
    | cells cs=>obtain ⟨⟨cs',h1⟩,_⟩:=q2.cells p cs hb;rw [hh] at h1;simp at h1
    | rows z rs wr=>obtain ⟨rs',wr',h1,_⟩:=q2.rows p z rs wr hb;rw [hh] at h1;simp at h1
    | map es=>obtain ⟨⟨es',h1⟩,_⟩:=q2.maps p es hb;rw [hh] at h1;simp at h1)
 unfold wpOp at this
 simp only [ho] at this
 split at this
 ·rcases this with h1 | ⟨_,_,_,h1⟩
  ·exact Zfg h1
  ·exact h1.elim
 ·exact this
theorem Real.lt {g:Nat→AV} {h:Zd} (r:Real Bs N g h) {s l:Nat} (hl:l∈Zm (g s)):l < h.length:=by
 obtain ⟨μ,w,t,_,_,hf⟩:=r
 exact Rep.locs_lt _ _ (hf s) l hl
def Closed (B:List (List Nat)) (L:Array Bool):Prop:=∀ k,L.getD k false=true→∀ i,bit B k i=true→L.getD i false=true
theorem ZlC {L:Array Bool} {i:Nat} (h:L.getD i true=false):L.getD i false=false:=by
 rcases Nat.lt_or_ge i L.size with h' | h'
 ·simp [h'] at h ⊢;exact h
 ·simp [Array.getElem?_eq_none h'] at h
theorem ZbS (hO:Ordered dy ops B) {L:Array Bool} (hc:Closed B L) {j i:Nat} (hj:j∈Region.ready .any ops L) (hb:bit B j i=true):L.getD i false=true:=by
 obtain ⟨_,o,ho,hall⟩:=mem_ready.1 hj
 obtain ⟨e,he,hbi,h⟩:=hO.cert j o ho i hb
 have hl:=hall e he hbi
 rcases h with h | h
 ·rw [←h];exact hl
 ·exact hc _ hl i h
theorem ZmK (hO:Ordered dy ops B) {L:Array Bool} (hc:Closed B L) {j i:Nat} (hj:j∈Region.ready .any ops L) (hi:i∈Region.ready .any ops L):bit B j i=false:=by
 cases hb:bit B j i with
 | false=>rfl
 | true =>
  have h1:=ZbS hO hc hj hb
  rw [ZlC (mem_ready.1 hi).1] at h1
  cases h1
theorem Closed.step (hO:Ordered dy ops B) {L:Array Bool} (hc:Closed B L) {j:Nat} (hj:j∈Region.ready .any ops L):Closed B (L.setIfInBounds j true):=by
 intro k hk i hb
 by_cases hkj:j=k
 ·subst hkj
  exact getD_set_true (ZbS hO hc hj hb)
 ·rw [getD_set_ne false hkj] at hk
  exact getD_set_true (hc k hk i hb)
theorem Zn9 (hO:Ordered dy ops B) {L:Array Bool} (hc:Closed B L) {i j:Nat} {oi oj:Oper} (hi:i∈Region.ready .any ops L) (hj:j∈Region.ready .any ops L) (hij:i≠j) (ho:ops[i]? = some oi) (ho':ops[j]? = some oj) :
  (∀ d,oi.dst=some d→d∉oj.looksAt ops)∧(∀ d,oi.dst=some d→oj.dst≠some d)∧(∀ d,oj.dst=some d→d∉oi.looksAt ops)∧(Zdr dy i j oi oj=true∨Zdr dy j i oj oi=true):=by
 rcases Nat.lt_or_gt_of_ne hij with h | h
 ·rcases hO.pair i j oi oj h ho ho' with h1 | ⟨h1,h2⟩
  ·rw [ZmK hO hc hj hi] at h1;cases h1
  ·obtain ⟨a1,a2,a3⟩:=Oper.apart_spec h1
   exact ⟨a1,a2,a3,.inl h2⟩
 ·rcases hO.pair j i oj oi h ho' ho with h1 | ⟨h1,h2⟩
  ·rw [ZmK hO hc hi hj] at h1;cases h1
  ·obtain ⟨a1,a2,a3⟩:=Oper.apart_spec h1
   exact ⟨a3,fun d hd he=>a2 d he hd,a1,.inr h2⟩
inductive Mix (dy:List (Nat×Nat)) (i j:Nat) (oi oj:Oper):Prop where
 | both (h1:isQ dy i oi.op=true) (h2:isQ dy j oj.op=true)
 | left (h1:isQ dy i oi.op=true) (h2:alo oj.op=true∨∀ s,s∈Xi oi.op→(j,s)∈dy)
 | right (h1:isQ dy j oj.op=true) (h2:alo oi.op=true∨∀ s,s∈Xi oj.op→(i,s)∈dy)
 | makes (h1:alo oi.op=true) (h2:alo oj.op=true)
 | memL (h1:Znp oi.op=true) (h0:isQ dy i oi.op=false) (h2:alo oj.op=true)
 | memR (h1:alo oi.op=true) (h2:Znp oj.op=true) (h0:isQ dy j oj.op=false)
 | ins (hp:Jg oi oj=true) (h1:∀ s,s∈Xi oi.op→(j,s)∈dy) (h2:∀ s,s∈Xi oj.op→(i,s)∈dy)
theorem Zih {oi oj:Oper} (h:Jg oi oj=true):Jg oj oi=true:=by
 unfold Jg at h
 split at h
 ·simp only [Bool.and_eq_true,decide_eq_true_eq,Bool.not_eq_true',beq_eq_false_iff_ne] at h
  obtain ⟨rfl,rfl,hk⟩:=h
  simp only [Jg,Bool.and_eq_true,decide_eq_true_eq,Bool.not_eq_true',beq_eq_false_iff_ne]
  exact ⟨trivial,trivial,fun e=>hk e.symm⟩
 ·simp at h
theorem Zqx {i j:Nat} {oi oj:Oper} (h:Zdr dy i j oi oj=true):Mix dy i j oi oj:=by
 unfold Zdr at h
 split at h
 ·rename_i h1
  split at h
  ·rename_i h2;exact .both h1 h2
  ·simp only [Bool.or_eq_true,List.all_eq_true,List.contains_iff_mem] at h
   exact .left h1 h
 ·split at h
  ·rename_i h2
   simp only [Bool.or_eq_true,List.all_eq_true,List.contains_iff_mem] at h
   exact .right h2 h
  ·rename_i q1 q2
   simp only [Bool.or_eq_true,Bool.and_eq_true,List.all_eq_true,List.contains_iff_mem] at h
   rcases h with h | h | h | h
   ·exact .makes h.1 h.2
   ·exact .memL h.1 (by simpa using q1) h.2
   ·exact .memR h.1 h.2 (by simpa using q2)
   ·exact .ins h.1 h.2.1 h.2.2
theorem Mix.swap {i j:Nat} {oi oj:Oper} (h:Mix dy i j oi oj):Mix dy j i oj oi:=by
 cases h with
 | both h1 h2=>exact .both h2 h1
 | left h1 h2=>exact .right h1 h2
 | right h1 h2=>exact .left h1 h2
 | makes h1 h2=>exact .makes h2 h1
 | memL h1 h0 h2=>exact .memR h2 h1 h0
 | memR h1 h2 h0=>exact .memL h2 h0 h1
 | ins hp h1 h2=>exact .ins (Zih hp) h2 h1
def Zm4 (pl:Nat→Nat) (ops:Array Oper):Prop:=∀ (i j:Nat) (oi oj:Oper),ops[i]? = some oi→ops[j]? = some oj→alo oi.op=true→alo oj.op=true→i≠j→pl i≠pl j
def Ztb (pl:Nat→Nat) (ops:Array Oper) (n:Nat):Prop:=∀ (i:Nat) (oi:Oper),ops[i]? = some oi→alo oi.op=true→pl i < n
theorem ZsE {i j:Nat} (hF:X5 Bs C.P F) (hfit:OpsFit N ops) (hpl:Zm4 pl ops) (hij:i≠j) {oi oj:Oper} {g:Nat→AV} {h h' h'':Zd} {x y:AV} {T T':List Nat} (ho:ops[i]? = some oi) (ho':ops[j]? = some oj)
  (a1:∀ d,oi.dst=some d→d∉oj.looksAt ops) (a3:∀ d,oj.dst=some d→d∉oi.looksAt ops) (hm:Mix dy i j oi oj) (hr:Real Bs N g h) (hlt:Ztb pl ops h.length)
  (h1:Z8 C F dy pl ops i g h=some (x,h',T)) (h2:Z8 C F dy pl ops j (Jp g oi.dst x) h'=some (y,h'',T'))
  (ci:∀ s,(i,s)∈dy→s∈Xi oj.op→∀ l,l∈Zm (g s)→l∉T) (cj:∀ s,(j,s)∈dy→s∈Xi oi.op→∀ l,l∈Zm (g s)→l∉T') :
  ∃ h2,Z8 C F dy pl ops j g h=some (y,h2,T')∧Z8 C F dy pl ops i (Jp g oj.dst y) h2=some (x,h'',T):=by
 have fj:∀ h,Z8 C F dy pl ops j (Jp g oi.dst x) h=Z8 C F dy pl ops j g h:=fun h=>Zeb ho' fun t ht=>Zab fun e=>a1 t e ht
 have fi:∀ h,Z8 C F dy pl ops i (Jp g oj.dst y) h=Z8 C F dy pl ops i g h:=fun h=>Zeb ho fun t ht=>Zab fun e=>a3 t e ht
 rw [fj] at h2
 have case1:isQ dy i oi.op=true→(isQ dy j oj.op=true∨alo oj.op=true∨∀ s,s∈Xi oi.op→(j,s)∈dy)→∃ h2,Z8 C F dy pl ops j g h=some (y,h2,T')∧Z8 C F dy pl ops i (Jp g oj.dst y) h2=some (x,h'',T):=by
  intro q hc
  obtain ⟨rfl,rfl⟩:=Jj ho q h1
  refine ⟨h'',h2,?_⟩
  rw [fi]
  rcases hc with q' | hc
  ·obtain ⟨rfl,rfl⟩:=Jj ho' q' h2
   exact h1
  ·refine Zec ho q (fun s hs l hl=>?_) h1
   refine ((Zaf h2).2 l (hr.lt hl) ?_ (hr.solid hl)).symm
   rcases hc with hc | hc
   ·rw [ZgS ho' hc h2];simp
   ·exact cj s (hc s hs) hs l hl
 cases hm with
 | both q q'=>exact case1 q (.inl q')
 | left q hc=>exact case1 q (.inr hc)
 | right q hc =>
  obtain ⟨rfl,rfl⟩:=Jj ho' q h2
  have h3:Z8 C F dy pl ops j g h=some (y,h,[]):=by
   refine Zec ho' q (fun s hs l hl=>?_) h2
   refine (Zaf h1).2 l (hr.lt hl) ?_ (hr.solid hl)
   rcases hc with hc | hc
   ·rw [ZgS ho hc h1];simp
   ·exact ci s (hc s hs) hs l hl
  exact ⟨h,h3,by rw [fi];exact h1⟩
 | makes ai aj =>
  obtain ⟨rfl,c1⟩:=WT ho ai h1
  obtain ⟨rfl,c2⟩:=WT ho' aj h2
  have hne:=hpl i j oi oj ho ho' ai aj hij
  rcases c1 with ⟨rfl,s1⟩ | ⟨b1,p1,rfl,s1⟩
  ·exact ⟨h'',h2,by rw [fi];exact s1 _⟩
  ·rcases c2 with ⟨rfl,s2⟩ | ⟨b2,p2,rfl,s2⟩
   ·exact ⟨h,s2 h,by rw [fi];exact h1⟩
   ·rw [List.getElem?_set_ne hne] at p2
    refine ⟨h.set (pl j) b2,s2 h p2,?_⟩
    rw [fi,s1 _ (by rw [List.getElem?_set_ne (fun e=>hne e.symm)];exact p1),List.set_comm _ _ (fun e=>hne e.symm)]
 | memL hm hq aj =>
  obtain ⟨rfl,c2⟩:=WT ho' aj h2
  rcases c2 with ⟨rfl,s2⟩ | ⟨b2,p2,rfl,s2⟩
  ·exact ⟨h,s2 h,by rw [fi];exact h1⟩
  ·have hh:=hr.hole hF ho hfit h1 _ (hlt j oj ho' aj) p2
   refine ⟨h.set (pl j) b2,s2 h hh,?_⟩
   rw [fi,(ZfN ho hm hq (hlt j oj ho' aj) (hr.blocks hh) (fun s hs=>hr.solid hs hh)).1,h1]
 | memR ai hm hq =>
  obtain ⟨rfl,c1⟩:=WT ho ai h1
  rcases c1 with ⟨rfl,s1⟩ | ⟨b1,p1,rfl,s1⟩
  ·exact ⟨h'',h2,by rw [fi];exact s1 _⟩
  ·obtain ⟨q1,q2⟩:=ZfN (C:=C) (F:=F) (dy:=dy) (pl:=pl) (g:=g) (b:=b1) ho' hm hq (hlt i oi ho ai) (hr.blocks p1) (fun s hs=>hr.solid hs p1)
   rw [q1] at h2
   cases hs:Z8 C F dy pl ops j g h with
   | none=>rw [hs] at h2;simp at h2
   | some r =>
    obtain ⟨y',h3,T3⟩:=r
    rw [hs] at h2
    simp only [Option.some.injEq,Prod.mk.injEq] at h2
    obtain ⟨rfl,rfl,rfl⟩:=h2
    exact ⟨h3,rfl,by rw [fi];exact s1 h3 (by rw [q2 _ _ _ hs];exact p1)⟩
 | ins hp e1 e2 =>
  obtain ⟨h3,q1,q2⟩:=ZiV ho ho' hp h1 h2 (fun s hs=>ci s (e2 s hs) hs) (fun s hs=>cj s (e1 s hs) hs)
  exact ⟨h3,q1,by rw [fi];exact q2⟩
def Zhd (dy:List (Nat×Nat)) (i:Nat) (G:Nat→AV) (T:List Nat):Prop:=∀ s,(i,s)∈dy→∀ l,l∈Zm (G s)→l∉T
def Zhe (C:Cfg) (F:Tk→Res) (dy:List (Nat×Nat)) (pl:Nat→Nat) (ops:Array Oper) (G:Nat→AV) (H:Zd):Nat→Array Bool→(Nat→AV)→Zd→Prop
 | 0,L,g,h=>Region.ready .any ops L=[]∧g=G∧h=H
 | n+1,L,g,h=>(Region.ready .any ops L=[]→g=G∧h=H)∧∀ i,i∈Region.ready .any ops L→∀ o,ops[i]? = some o →
   ∃ x h' T,Z8 C F dy pl ops i g h=some (x,h',T)∧Zhd dy i G T∧Zhe C F dy pl ops G H n (L.setIfInBounds i true) (Jp g o.dst x) h'
theorem Zgy {G:Nat→AV} {H:Zd} {s:Nat}:∀ (n:Nat) (L:Array Bool) (g:Nat→AV) (h:Zd),Zhe C F dy pl ops G H n L g h→(∀ (k:Nat) (o:Oper),ops[k]? = some o→o.dst=some s→L.getD k true=true)→G s=g s
 | 0,L,g,h,ha,_=>by rw [ha.2.1]
 | n+1,L,g,h,ha,hs=>by
  by_cases hr:Region.ready .any ops L=[]
  ·rw [(ha.1 hr).1]
  ·obtain ⟨i,hi⟩:∃ i,i∈Region.ready .any ops L:=by
    cases hl:Region.ready .any ops L with
    | nil=>exact absurd hl hr
    | cons i r=>exact ⟨i,by simp⟩
   obtain ⟨h0,o,ho,_⟩:=mem_ready.1 hi
   obtain ⟨x,h',T,_,_,h3⟩:=ha.2 i hi o ho
   have:=Zgy n _ _ _ h3 fun k ok hk hd=>by
    by_cases hik:i=k
    ·subst hik
     rcases Nat.lt_or_ge i L.size with h' | h'
     ·simp [h']
     ·simp [Array.getElem?_eq_none h']
    ·rw [getD_set_ne true hik];exact hs k ok hk hd
   rw [this]
   refine Zab fun e=>?_
   have:=hs i o ho e
   rw [h0] at this
   cases this
theorem ZkL (hO:Ordered dy ops B) {L:Array Bool} (hc:Closed B L) {j:Nat} {oj:Oper} (hj:j∈Region.ready .any ops L) (ho:ops[j]? = some oj) {s:Nat} (hs:s∈Xi oj.op) :
  ∀ (k:Nat) (o:Oper),ops[k]? = some o→o.dst=some s→L.getD k true=true:=fun k o hk hd=>by
 have h1:=ZbS hO hc hj (hO.reads j oj ho s hs k o hk hd)
 rcases Nat.lt_or_ge k L.size with h' | h'
 ·simp [h'] at h1 ⊢;exact h1
 ·simp [Array.getElem?_eq_none h'] at h1
theorem Zlb (hF:X5 Bs C.P F) (hpl:Zm4 pl ops) (hO:Ordered dy ops B) (hfit:OpsFit N ops) {G:Nat→AV} {H:Zd} {i:Nat} {oi:Oper} (ho:ops[i]? = some oi) :
  ∀ (n:Nat) (L:Array Bool) (g:Nat→AV) (h h':Zd) (x:AV) (T:List Nat),i∈Region.ready .any ops L→Closed B L→Real Bs N g h→Ztb pl ops h.length→Z8 C F dy pl ops i g h=some (x,h',T)→Zhd dy i G T →
   Zhe C F dy pl ops G H n (L.setIfInBounds i true) (Jp g oi.dst x) h'→Zhe C F dy pl ops G H (n+1) L g h:=by
 intro n
 induction n with
 | zero =>
  intro L g h h' x T hi hc hr hlt hs hcl ha
  refine ⟨fun e=>by rw [e] at hi;simp at hi,fun j hj oj hoj=>?_⟩
  by_cases hji:j=i
  ·subst hji
   rw [ho] at hoj
   simp only [Option.some.injEq] at hoj
   subst hoj
   exact ⟨x,h',T,hs,hcl,ha⟩
  ·have:=ready_mono hj hji
   rw [ha.1] at this
   simp at this
 | succ n ih =>
  intro L g h h' x T hi hc hr hlt hs hcl ha
  refine ⟨fun e=>by rw [e] at hi;simp at hi,fun j hj oj hoj=>?_⟩
  by_cases hji:j=i
  ·subst hji
   rw [ho] at hoj
   simp only [Option.some.injEq] at hoj
   subst hoj
   exact ⟨x,h',T,hs,hcl,ha⟩
  ·obtain ⟨y,h'',T',h1,h2,h3⟩:=ha.2 j (ready_mono hj hji) oj hoj
   obtain ⟨a1,a2,a3,hm⟩:=Zn9 hO hc hi hj (fun e=>hji e.symm) ho hoj
   have hmix:Mix dy i j oi oj:=hm.elim Zqx fun hm=>(Zqx hm).swap
   have keep:∀ {k:Nat} {ok:Oper},k∈Region.ready .any ops L→ops[k]? = some ok→∀ s,s∈Xi ok.op→G s=g s:=fun {k ok} hk hok s hsr=>by
    have hd:=ZkL hO hc hk hok hsr
    have h4:=Zgy (n+1) _ _ _ ha (s:=s) fun q o hq hqd=>by
     by_cases hiq:i=q
     ·subst hiq
      rcases Nat.lt_or_ge i L.size with h' | h'
      ·simp [h']
      ·simp [Array.getElem?_eq_none h']
     ·rw [getD_set_ne true hiq];exact hd q o hq hqd
    rw [h4]
    refine Zab fun e=>?_
    have:=hd i oi ho e
    rw [(mem_ready.1 hi).1] at this
    cases this
   obtain ⟨h4,h5,h6⟩:=ZsE hF hfit hpl (fun e=>hji e.symm) ho hoj a1 a3 hmix hr hlt hs h1
    (fun s hsd hsr l hl=>hcl s hsd l (by rw [keep hj hoj s hsr];exact hl)) (fun s hsd hsr l hl=>h2 s hsd l (by rw [keep hi ho s hsr];exact hl))
   refine ⟨y,h4,T',h5,h2,ih (L.setIfInBounds j true) _ h4 h'' x T (ready_mono hi (fun e=>hji e.symm)) (hc.step hO hj) (hr.step hF hoj hfit h5) (fun q oq hq haq=>Nat.lt_of_lt_of_le (hlt q oq hq haq) (Zaf h5).1) h6 hcl ?_⟩
   rw [Array.setIfInBounds_comm _ _ hji,Zoc (g:=g) (d:=oj.dst) (e:=oi.dst) fun s hsd he=>a2 s he hsd]
   exact h3
theorem ZpX (hF:X5 Bs C.P F) {G:Nat→AV} {H:Zd} {Q:Exit→Act→World→Prop}:∀ (n:Nat) (L:Array Bool) (g:Nat→AV) (h:Zd) (a:Act) (μ:Mp Bs) (w:World),
  Zhe C F dy pl ops G H n L g h→OpsFit a.tmps.size ops→Rel μ h w→FrG μ h w g a.tmps →
  (∀ a' μ' w',Rel μ' H w'→Ext μ h w μ' H w'→FrG μ' H w' G a'.tmps→a'.tmps.size=a.tmps.size→a'.defers=a.defers→Q .normal a' w')→wpAny C.P .any ops Q n L a w
 | 0,L,g,h,a,μ,w,ha,_,hr,hf,hQ=>by
  obtain ⟨h1,rfl,rfl⟩:=ha
  exact ⟨h1,hQ a μ w hr (Ext.refl _ _ _) hf rfl rfl⟩
 | n+1,L,g,h,a,μ,w,ha,hfit,hr,hf,hQ=>by
  refine ⟨fun e=>?_,fun i hi=>?_⟩
  ·obtain ⟨rfl,rfl⟩:=ha.1 e
   exact hQ a μ w hr (Ext.refl _ _ _) hf rfl rfl
  ·obtain ⟨_,o,ho,_⟩:=mem_ready.1 hi
   obtain ⟨x,h',T,h1,_,h3⟩:=ha.2 i hi o ho
   refine ZeP hF ho (hfit i o ho) hr hf h1 ?_
   intro v μ' w' q1 q2 q3
   refine ZpX hF n _ _ h' (a.put o.dst v) μ' w' h3 (by rw [Xv];exact hfit) q1 q3 ?_
   intro a' μ2 w2 p1 p2 p3 p4 p5
   exact hQ a' μ2 w2 p1 (q2.trans p2) p3 (by rw [p4,Xv]) (by rw [p5,Q7])
def Jm (N:Nat) (k:Nat):Array Bool:=((List.range N).map fun i=>decide (i < k)).toArray
theorem ZcK {M k i:Nat} (d:Bool) (h:i < M):(Jm M k).getD i d=decide (i < k):=by
 simp [Jm,h]
theorem Zn0 (M:Nat):Jm M 0=Array.replicate M false:=by
 apply Array.ext
 ·simp [Jm]
 ·intro i h1 h2;simp [Jm]
theorem ZgW {M k:Nat}:(Jm M k).setIfInBounds k true=Jm M (k+1):=by
 apply Array.ext
 ·simp [Jm]
 ·intro i h1 h2
  have hi:i < M:=by simpa [Jm] using h2
  by_cases hik:k=i
  ·subst hik
   simp [Jm]
  ·rw [Array.getElem_setIfInBounds_ne (by simpa [Jm] using hi) hik]
   simp [Jm]
   omega
theorem Zgp (hO:Ordered dy ops B) {k:Nat} {o:Oper} (ho:ops[k]? = some o):k∈Region.ready .any ops (Jm ops.size k):=by
 have hk:k < ops.size:=(Array.getElem?_eq_some_iff.1 ho).1
 refine mem_ready.2 ⟨by rw [ZcK _ hk];simp,o,ho,fun e he hb=>?_⟩
 have:=hO.lex k o ho e he hb
 rw [ZcK _ (by omega)]
 simpa using this
theorem Zn2 {k:Nat} (hk:ops.size≤k):Region.ready .any ops (Jm ops.size k)=[]:=by
 apply List.eq_nil_iff_forall_not_mem.2
 intro i hi
 obtain ⟨h1,o,ho,_⟩:=mem_ready.1 hi
 have hlt:i < ops.size:=(Array.getElem?_eq_some_iff.1 ho).1
 rw [ZcK _ hlt] at h1
 simp at h1
 omega
theorem Ze7 (hO:Ordered dy ops B):∀ k,k≤ops.size→Closed B (Jm ops.size k)
 | 0,_=>fun i hi=>by
  exfalso
  rcases Nat.lt_or_ge i ops.size with h' | h'
  ·rw [ZcK _ h'] at hi;simp at hi
  ·have:(Jm ops.size 0).size≤i:=by simpa [Jm] using h'
   simp [Array.getElem?_eq_none this] at hi
 | k+1,hk=>by
  rw [←ZgW]
  exact (Ze7 hO k (by omega)).step hO (Zgp hO (Array.getElem?_eq_getElem (by omega)))
theorem Zd9 {fr:Fr} {T:List Nat} {i:Nat}:∀ {d:List (Nat×Nat)},Ql d i fr T=true→Zhd d i (get fr) T
 | [],_,s,hs,_,_=>by simp at hs
 | (j,s')::r,e,s,hs,l,hl=>by
  simp only [Ql,Bool.and_eq_true] at e
  rcases List.mem_cons.1 hs with h | h
  ·simp only [Prod.mk.injEq] at h
   obtain ⟨rfl,rfl⟩:=h
   have e1:=e.1
   simp only [if_true,Bool.not_eq_true',List.any_eq_false,List.contains_iff_mem] at e1
   exact e1 l hl
  ·exact Zd9 e.2 s h l hl
theorem ZmO (hF:X5 Bs C.P F) (hpl:Zm4 pl ops) (hO:Ordered dy ops B) (hfit:OpsFit N ops) {G:Fr} {H:Zd}:∀ (rest:List Oper) (k:Nat) (fr:Fr) (h:Zd) (l:List (Nat×List Nat)),
  ops.toList.drop k=rest→k≤ops.size→Real Bs N (get fr) h→Ztb pl ops h.length→Xm C F dy pl ops.toList k rest fr h=some (G,H,l)→YA dy G l=true→Zhe C F dy pl ops (get G) H (ops.size - k) (Jm ops.size k) (get fr) h
 | [],k,fr,h,l,hd,hk,hr,hlt0,e,hcl=>by
  have hn:ops.size≤k:=by
   have:=congrArg List.length hd
   simp at this
   omega
  have:ops.size - k=0:=by omega
  rw [this]
  simp only [Xm,Option.some.injEq,Prod.mk.injEq] at e
  obtain ⟨rfl,rfl,_⟩:=e
  exact ⟨Zn2 hn,rfl,rfl⟩
 | o::rest,k,fr,h,l,hd,hk,hr,hlt0,e,hcl=>by
  have hlt:k < ops.size:=by
   have:=congrArg List.length hd
   simp at this
   omega
  have ho:ops[k]? = some o:=by
   have:=congrArg (fun l=>l[0]?) hd
   simp only [List.getElem?_drop,Nat.add_zero,List.getElem?_cons_zero,Array.getElem?_toList] at this
   exact this
  have hd':ops.toList.drop (k+1)=rest:=by
   have:=congrArg List.tail hd
   simpa [List.tail_drop] using this
  have hsz:ops.size - k=(ops.size - (k+1))+1:=by omega
  rw [hsz]
  have step:∀ {x:AV} {h':Zd} {T:List Nat} {l':List (Nat×List Nat)},Z8 C F dy pl ops k (get fr) h=some (x,h',T)→Xm C F dy pl ops.toList (k+1) rest (put fr o.dst x) h'=some (G,H,l')→YA dy G l'=true→Zhd dy k (get G) T →
    Zhe C F dy pl ops (get G) H (ops.size - (k+1)+1) (Jm ops.size k) (get fr) h:=by
   intro x h' T l' hs hn hcl' hc
   refine Zlb hF hpl hO hfit ho _ _ _ _ h' x T (Zgp hO ho) (Ze7 hO k hk) hr hlt0 hs hc ?_
   rw [ZgW,←Zmy]
   refine ZmO hF hpl hO hfit rest (k+1) _ h' l' hd' hlt ?_ (fun q oq hq haq=>Nat.lt_of_lt_of_le (hlt0 q oq hq haq) (Zaf hs).1) hn hcl'
   rw [Zmy]
   exact hr.step hF ho hfit hs
  have go:∀ (hg:XU ops (get fr) o=some true),(match Xk C F dy pl k (ev fr) h o.op with
    | some (v,h')=>match Xm C F dy pl ops.toList (k+1) rest (put fr o.dst v) h' with
     | some (fr',h'',l)=>some (fr',h'',(k,chg h h' (Z9 dy k (ev fr) h o.op))::l)
     | none=>none
    | none=>none)=some (G,H,l)→Zhe C F dy pl ops (get G) H (ops.size - (k+1)+1) (Jm ops.size k) (get fr) h:=by
   intro hg e
   split at e
   ·rename_i v h' hs
    split at e
    ·rename_i fr' h'' l' hn
     simp only [Option.some.injEq,Prod.mk.injEq] at e
     obtain ⟨rfl,rfl,rfl⟩:=e
     simp only [YA,Bool.and_eq_true] at hcl
     refine step (T:=chg h h' (Z9 dy k (ev fr) h o.op)) ?_ hn hcl.2 (Zd9 hcl.1)
     rw [ZuX] at hs ⊢
     unfold Z8
     simp only [ho,hg,hs]
    ·simp at e
   ·simp at e
  have skip:∀ (hg:XU ops (get fr) o=some false),Xm C F dy pl ops.toList (k+1) rest (put fr o.dst (.tup [])) h=some (G,H,l)→Zhe C F dy pl ops (get G) H (ops.size - (k+1)+1) (Jm ops.size k) (get fr) h:=by
   intro hg e
   refine step (x:=.tup []) (h':=h) (T:=[]) ?_ e hcl (fun _ _ _ _=>by simp)
   unfold Z8
   simp only [ho,hg]
  simp only [Xm] at e
  split at e
  ·rename_i hg
   exact go (by unfold XU;simp only [hg]) e
  ·rename_i j want hg
   split at e
   ·rename_i b hb
    rw [Znf] at hb
    split at e
    ·rename_i hbw
     exact go (by unfold XU;simp only [hg,hb,hbw,decide_true]) e
    ·rename_i hbw
     exact skip (by unfold XU;simp only [hg,hb,hbw,decide_false]) e
   ·rename_i hb
    rw [Znf] at hb
    exact skip (by unfold XU;simp only [hg,hb]) e
   ·simp at e
theorem Qx:∀ (l:List Oper) (i j:Nat) (o:Oper),l[i]? = some o→alo o.op=true→i < j→QP (l.take i) < QP (l.take j)
 | [],i,j,o,e,_,_=>by simp at e
 | a::l,0,j,o,e,ha,hj=>by
  simp only [List.getElem?_cons_zero,Option.some.injEq] at e
  subst e
  obtain ⟨j,rfl⟩:∃ k,j=k+1:=⟨j - 1,by omega⟩
  simp only [List.take_zero,List.take_succ_cons,QP,ha,if_true]
  omega
 | a::l,i+1,j,o,e,ha,hj=>by
  obtain ⟨j,rfl⟩:∃ k,j=k+1:=⟨j - 1,by omega⟩
  simp only [List.take_succ_cons,QP]
  have:=Qx l i j o (by simpa using e) ha (by omega)
  omega
theorem ZqQ (n:Nat):Zm4 (ZhN n ops.toList) ops:=fun i j oi oj hi hj ai aj hij=>by
 have hi':ops.toList[i]? = some oi:=by simpa using hi
 have hj':ops.toList[j]? = some oj:=by simpa using hj
 unfold ZhN
 rcases Nat.lt_or_gt_of_ne hij with h | h
 ·have:=Qx ops.toList i j oi hi' ai h
  omega
 ·have:=Qx ops.toList j i oj hj' aj h
  omega
theorem ZmL:∀ (l:List Oper) (i:Nat),QP (l.take i)≤QP l
 | [],_=>by simp
 | a::l,0=>by simp [QP]
 | a::l,i+1=>by
  simp only [List.take_succ_cons,QP]
  have:=ZmL l i
  omega
theorem Zta {l:List Oper} {i:Nat} {o:Oper} (e:l[i]? = some o) (ha:alo o.op=true):QP (l.take i) < QP l:=by
 have h1:=Qx l i (i+1) o e ha (by omega)
 have h2:=ZmL l (i+1)
 omega
theorem Zr3 (n:Nat) (h:Zd):Ztb (ZhN h.length ops.toList) ops (h++List.replicate (QP ops.toList) Blk.hole).length:=fun i oi hi ai=>by
 have:=Zta (l:=ops.toList) (by simpa using hi) ai
 simp only [ZhN,List.length_append,List.length_replicate]
 omega
theorem Zg5 {μ:Mp Bs} {w:World}:∀ (n:Nat) (h:Zd),Rel μ h w→∃ μ',Rel μ' (h++List.replicate n .hole) w∧Ext μ h w μ' (h++List.replicate n .hole) w
 | 0,h,hr=>⟨μ,by simpa using hr,by simpa using Ext.refl μ h w⟩
 | n+1,h,hr=>by
  have hp:=Ext.push hr .hole none
  have hr':Rel (μ.set h.length none) (h++[.hole]) w:=Rel.push hr .hole none (Zv _ _)
  obtain ⟨μ',h1,h2⟩:=Zg5 n (h++[.hole]) hr'
  have e:h++[.hole]++List.replicate n Blk.hole=h++List.replicate (n+1) .hole:=by simp [List.replicate_succ]
  rw [e] at h1 h2
  exact ⟨μ',h1,hp.trans h2⟩
theorem Zlk (hF:X5 Bs C.P F) (hO:Ordered dy ops B) {Q:Exit→Act→World→Prop} {id:Nat} {fr fr':Fr} {h h':Zd} {a:Act} {μ:Mp Bs} {w:World} (hm:C.P.follows .mixedOrders=true) (hfit:OpsFit a.tmps.size ops) (hr:Rel μ h w) (hf:FrRel μ h w fr a.tmps)
  (e:ZdP dy (Xm C F dy (ZhN h.length ops.toList) ops.toList 0 ops.toList fr (h++List.replicate (QP ops.toList) .hole))=some (fr',h')) (hQ:Zwd μ h w a fr' h' Q):(Code.region id ops true).wp C.P Q a w:=by
 unfold ZdP at e
 split at e
 ·rename_i fr1 h1 l hl
  split at e
  ·rename_i hcl
   simp only [Option.some.injEq,Prod.mk.injEq] at e
   obtain ⟨rfl,rfl⟩:=e
   refine wp_region_any hm ?_
   obtain ⟨μ1,hr1,ex1⟩:=Zg5 (QP ops.toList) h hr
   have hf1:FrRel μ1 (h++List.replicate (QP ops.toList) .hole) w fr a.tmps:=FrRel.ext ex1 hf
   have hr':=JI hr1
   have ex:=drew_ext (μ:=μ1) (h:=h++List.replicate (QP ops.toList) .hole) (w:=w)
   have hf':FrG μ1 (h++List.replicate (QP ops.toList) .hole) (YT w) (get fr) a.tmps:=FrRel.ext ex hf1
   have hreal:Real Bs a.tmps.size (get fr) (h++List.replicate (QP ops.toList) .hole):=⟨μ1,w,a.tmps,rfl,hr1,hf1⟩
   have:=ZmO hF (ZqQ h.length) hO hfit ops.toList 0 fr _ l (by simp) (by omega) hreal (Zr3 0 h) hl hcl
   rw [Zn0,Nat.sub_zero] at this
   refine ZpX hF ops.size _ _ _ a μ1 (YT w) this hfit hr' hf' ?_
   intro a' μ' w' q1 q2 q3 q4 q5
   exact hQ a' μ' w' q1 (ex1.trans (ex.trans q2)) q3 q4 q5
  ·simp at e
 ·simp at e
end
section
variable {Bs:World→Prop}
def Jo (μ:Mp Bs) (ls:List Nat):Mp Bs :=
 ⟨fun i=>match ls[i]? with
  | some l=>μ l
  | none=>none,μ.out,μ.still⟩
end
section
variable {Bs:World→Prop}
variable {P:Program} {μ μ0:Mp Bs} {h hs h0:Zd} {w w0:World} {ls:List Nat}
theorem Xy {i l:Nat} (e:ls[i]? = some l):(Jo μ ls) i=μ l:=by simp only [Jo,e]
theorem IsPart.pmut (hp:IsPart h ls hs) {b o:Nat} (hx:Mut (Jo μ ls) hs b o):Mut μ h b o:=by
 rcases hx with ho | ⟨i,k,hi,hm,ho⟩
 ·exact .inl ho
 ·obtain ⟨l,e,_⟩:=hp.nth (List.getElem?_eq_some_iff.1 hi).1
  obtain ⟨b',h1,h2⟩:=hp.there i l e
  rw [hi] at h2
  simp only [Option.some.injEq] at h2
  subst h2
  rw [Xy e] at hm
  exact .inr ⟨l,b',h1,hm,(Za0 _ _ _).1 ho⟩
theorem IsPart.pkeeps (hp:IsPart h ls hs) {l:Nat} (hl:l∈ls):XM μ h (Jo μ ls) hs (YX ls) l:=fun k hk=>by
 have hat:=Wq ls l hl
 obtain ⟨b,h1,h2⟩:=hp.there _ l hat
 rw [hk] at h1
 simp only [Option.some.injEq] at h1
 subst h1
 exact ⟨h2,Xy hat⟩
theorem IsPart.prep (hp:IsPart h ls hs) {a:AV} {v:Value} (hu:∀ i,i∈Zm a→i∈ls) (r:Rep μ h w a v):Rep (Jo μ ls) hs w (ren (YX ls) a) v :=
 Rep.ren (fun _ _ hx=>hp.pmut hx) a v (fun i hi=>hp.pkeeps (hu i hi)) r
theorem IsPart.prel (hp:IsPart h ls hs) (hr:Rel μ h w):Rel (Jo μ ls) hs w where
 inj:=fun i j b hi hj hm hm'=>by
  obtain ⟨l,e,hl⟩:=hp.nth hi
  obtain ⟨l',e',hl'⟩:=hp.nth hj
  rw [Xy e] at hm
  rw [Xy e'] at hm'
  have:l=l':=hr.inj l l' b (hp.lt hl) (hp.lt hl') hm hm'
  subst this
  rw [←QF ls i l hp.nodup e,←QF ls j l hp.nodup e']
 blk:=fun i k hi=>by
  obtain ⟨l,e,hl⟩:=hp.nth (List.getElem?_eq_some_iff.1 hi).1
  obtain ⟨b',h1,h2⟩:=hp.there i l e
  rw [hi] at h2
  simp only [Option.some.injEq] at h2
  subst h2
  have hi0:=hi
  have:=hr.blk l b' h1
  cases b' with
  | cells cs =>
   obtain ⟨b,vs,T,h3,h4,h5,h6⟩:=this
   refine ⟨b,vs,T,by rw [Xy e];exact h3,h4,by rw [Qc];exact h5,RepL.ren (fun _ _ hx=>hp.pmut hx) cs vs (fun j hj=>hp.pkeeps ?_) h6⟩
   refine (XO ls j).1 (hp.closed _ (YP hi _ ?_))
   show _∈Zk (XI _ cs)
   rw [Wl]
   exact List.mem_map_of_mem hj
  | rows z rs wr =>
   rcases this with ⟨h3,h4⟩ | ⟨b,vs,T,h3,h4,h5,h6⟩
   ·exact .inl ⟨by rw [h3];rfl,by rw [Xy e];exact h4⟩
   ·refine .inr ⟨b,vs,T,by rw [Xy e];exact h3,by rw [Yn];exact h4,by rw [Yn];exact h5,h6.ren fun a v hi r=>Rep.ren (fun _ _ hx=>hp.pmut hx) a v (fun j hj=>hp.pkeeps ((XO ls j).1 (hp.closed _ (YP hi0 _ ?_)))) r⟩
    show _∈ZL (XK _ rs)
    rw [Zdq]
    exact List.mem_map_of_mem (hi j hj)
  | hole =>
   show (Jo μ ls) i=none
   rw [Xy e];exact this
  | map es =>
   obtain ⟨b,ms,c,h3,h4,h5⟩:=this
   exact ⟨b,ms,c,by rw [Xy e];exact h3,h4,h5.keep fun b o v hc hm=>⟨hc,fun hx=>hm (hp.pmut hx)⟩⟩
 apart:=fun i b o hi hm ho=>by
  obtain ⟨l,e,hl⟩:=hp.nth hi
  rw [Xy e] at hm
  exact hr.apart l b o (hp.lt hl) hm ho
 still:=fun b hb=>⟨(hr.still b hb).1,fun i hi hx=>by
  obtain ⟨l,e,hl⟩:=hp.nth hi
  rw [Xy e] at hx
  exact (hr.still b hb).2 l (hp.lt hl) hx⟩
 base:=hr.base
 old:=hr.old
theorem IsPart.pext (hp:IsPart h ls hs) (hk:∀ i,i < h0.length→ls[i]? = some i) (hle:h0.length≤ls.length) (e:Ext μ0 h0 w0 μ h w):Ext μ0 h0 w0 (Jo μ ls) hs w where
 out:=e.out
 still:=e.still
 os:=e.os
 tape:=e.tape
 output:=e.output
 size:=e.size
 len:=by rw [hp.len];exact hle
 keep:=fun b o v hc hm=>by
  obtain ⟨h1,h2⟩:=e.keep b o v hc hm
  exact ⟨h1,fun hx=>h2 (hp.pmut hx)⟩
 outside:=fun b hb ho=>by
  obtain ⟨h1,h2⟩:=e.outside b hb ho
  refine ⟨h1,fun i hi hx=>?_⟩
  obtain ⟨l,e',hl⟩:=hp.nth hi
  rw [Xy e'] at hx
  exact h2 l (hp.lt hl) hx
 cells:=fun l cs hl=>by
  obtain ⟨⟨cs',h1⟩,h2⟩:=e.cells l cs hl
  have hat:=hk l (List.getElem?_eq_some_iff.1 hl).1
  obtain ⟨b',h3,h4⟩:=hp.there l l hat
  rw [h1] at h3
  simp only [Option.some.injEq] at h3
  subst h3
  exact ⟨⟨_,h4⟩,by rw [Xy hat];exact h2⟩
 rows:=fun l z rs wr hl=>by
  obtain ⟨rs',wr',h1,h2,h2'⟩:=e.rows l z rs wr hl
  have hat:=hk l (List.getElem?_eq_some_iff.1 hl).1
  obtain ⟨b',h3,h4⟩:=hp.there l l hat
  rw [h1] at h3
  simp only [Option.some.injEq] at h3
  subst h3
  exact ⟨_,wr',h4,by rw [Yn];exact h2,fun q=>by rw [Xy hat];exact h2' (by rw [Yn] at q;exact q)⟩
 maps:=fun l es hl=>by
  obtain ⟨⟨es',h1⟩,h2⟩:=e.maps l es hl
  have hat:=hk l (List.getElem?_eq_some_iff.1 hl).1
  obtain ⟨b',h3,h4⟩:=hp.there l l hat
  rw [h1] at h3
  simp only [Option.some.injEq] at h3
  subst h3
  exact ⟨⟨_,h4⟩,by rw [Xy hat];exact h2⟩
 sizes:=e.sizes
theorem Q9 (h:Zd):∀ (n:Nat) (l s:List Nat),∃ t,YO h n l s=s++t
 | 0,l,s=>⟨[],by simp [YO]⟩
 | n+1,[],s=>⟨[],by simp [YO]⟩
 | n+1,x::l,s=>by
  simp only [YO]
  split
  ·exact Q9 h n l s
  ·split
   ·obtain ⟨t,ht⟩:=Q9 h n (l++Xj _) (s++[x])
    exact ⟨x::t,by rw [ht];simp⟩
   ·obtain ⟨t,ht⟩:=Q9 h n l (s++[x])
    exact ⟨x::t,by rw [ht];simp⟩
theorem Zhl {k:Nat} {r0 r:AV} {v:Value} {h':Zd} (hk:h0.length=k) (hr:Rel μ h w) (ex:Ext μ0 h0 w0 μ h w) (hv:Rep μ h w r0 v) (e:Zil k h r0=some (r,h')):∃ μ':Mp Bs,Rel μ' h' w∧Ext μ0 h0 w0 μ' h' w∧Rep μ' h' w r v:=by
 subst hk
 unfold Zil ZeK at e
 obtain ⟨t,ht⟩:=Q9 h 1000 (ZP (h.take h0.length)++Zm r0) (List.range h0.length)
 have hnd:=Xs h 1000 (ZP (h.take h0.length)++Zm r0) (List.range h0.length) List.nodup_range
 generalize YO h 1000 (ZP (h.take h0.length)++Zm r0) (List.range h0.length)=ls at e ht hnd
 split at e
 ·rename_i hs hsub
  split at e
  ·rename_i hc
   simp only [Option.some.injEq,Prod.mk.injEq] at e
   obtain ⟨rfl,rfl⟩:=e
   obtain ⟨h1,h4⟩:=Zdk h _ _ _ hsub
   have hp:IsPart h ls hs:=⟨hnd,h1,h4,Yo hc.1⟩
   refine ⟨Jo μ ls,hp.prel hr,hp.pext (fun i hi=>?_) ?_ ex,hp.prep (fun i hi=>(XO _ _).1 (Yo hc.2 _ (List.mem_map_of_mem hi))) hv⟩
   ·rw [ht,List.getElem?_append_left (by simpa using hi)]
    simp [hi]
   ·rw [ht];simp
  ·simp at e
 ·simp at e
end
section
variable {Bs:World→Prop}
def Qi (C:Cfg) (f n:Nat):Code→Prop
 | .region id ops draw=>OpsFit n ops∧(draw=true→∃ B,Ordered (C.dyn f id) ops B)
 | .seq a b=>Qi C f n a∧Qi C f n b
 | .cond _ a b=>Qi C f n a∧Qi C f n b
 | .block _ c=>Qi C f n c
 | .loop c=>Qi C f n c
 | _=>True
def Zty (C:Cfg) (f:Nat):Prop:=∃ fn c,C.P.funcs[f]? = some fn∧fn.body=some c∧(fn.name == "runtime.NumGoroutine")=false∧Qi C f fn.ntmps c
structure CfgOk (Bs:World→Prop) (C:Cfg):Prop where
 prim:∀ f args v,C.prim f args=some v→Go.Proofs.Enters C.P f∧Yb Bs C.P f args [] v []
 primH:∀ f args h r h',C.primH f args h=some (r,h')→Go.Proofs.Enters C.P f∧Yb Bs C.P f args h r h'
 good:∀ f,C.good f=true→Zty C f
 mixed:C.P.follows .mixedOrders=true
def Zvm (C:Cfg) (f n:Nat):It→Prop
 | .code c=>Qi C f n c
 | .blk _ _=>True
 | .lp c _ _=>Qi C f n c
 | .pst _ _=>True
def ItsOk (C:Cfg) (f n:Nat) (ks:List It):Prop:=∀ x,x∈ks→Zvm C f n x
def WM:List It→List Item
 | []=>[]
 | .code c::ks=>.code c::WM ks
 | .blk id _::ks=>.inBlock id::WM ks
 | .lp c _ _::ks=>.inLoop c::WM ks
 | .pst _ _::ks=>WM ks
theorem WG {id n:Nat}:∀ {ks ks':List It},Go.Ab.unwind id ks=some (n,ks')→exitTo id (WM ks)=some (WM ks')∧∀ x,x∈ks'→x∈ks
 | [],_,e=>by simp [Go.Ab.unwind] at e
 | .blk j m::ks,ks',e=>by
  simp only [Go.Ab.unwind] at e
  by_cases hj:j=id
  ·simp only [hj,if_true,Option.some.injEq,Prod.mk.injEq] at e
   obtain ⟨_,rfl⟩:=e
   exact ⟨by simp [WM,exitTo,hj],fun x hx=>List.mem_cons_of_mem _ hx⟩
  ·simp only [hj,if_false] at e
   obtain ⟨h1,h2⟩:=WG e
   exact ⟨by simp [WM,exitTo,hj,h1],fun x hx=>List.mem_cons_of_mem _ (h2 x hx)⟩
 | .code c::ks,ks',e=>by
  simp only [Go.Ab.unwind] at e
  obtain ⟨h1,h2⟩:=WG e
  exact ⟨by simp [WM,exitTo,h1],fun x hx=>List.mem_cons_of_mem _ (h2 x hx)⟩
 | .lp c _ _::ks,ks',e=>by
  simp only [Go.Ab.unwind] at e
  obtain ⟨h1,h2⟩:=WG e
  exact ⟨by simp [WM,exitTo,h1],fun x hx=>List.mem_cons_of_mem _ (h2 x hx)⟩
 | .pst _ _::ks,ks',e=>by
  simp only [Go.Ab.unwind] at e
  obtain ⟨h1,h2⟩:=WG e
  exact ⟨by simp [WM,h1],fun x hx=>List.mem_cons_of_mem _ (h2 x hx)⟩
def Ran (P:Program) (fn:Func) (m:Machine) (b:Frame) (cs:List Frame) (μ0:Mp Bs) (h0:Zd) (w0:World) (r:AV) (h':Zd):Prop :=
 ∃ (a':Act) (todo:List Item) (w':World) (v:Value) (μ':Mp Bs),Steps P m (lone { b.at a' todo with mode:=.returning } cs w')∧a'.defers=[]∧(results fn a'.tmps).run P w'=.ok v w'∧Rel μ' h' w'∧Ext μ0 h0 w0 μ' h' w'∧Rep μ' h' w' r v
theorem Ran.of_steps {P:Program} {fn:Func} {m m':Machine} {b:Frame} {cs:List Frame} {μ0:Mp Bs} {h0:Zd} {w0:World} {r:AV} {h':Zd} (hs:Steps P m m') (h:Ran P fn m' b cs μ0 h0 w0 r h'):Ran P fn m b cs μ0 h0 w0 r h':=by
 obtain ⟨a',todo,w',v,μ',h1,h2⟩:=h
 exact ⟨a',todo,w',v,μ',hs.trans h1,h2⟩
def ZnI (Bs:World→Prop) (C:Cfg) (F:Tk→Res):Prop :=
 ∀ f k ks fr h r h',F (.run f k ks fr h)=some (r,h')→∀ fn,C.P.funcs[f]? = some fn→ItsOk C f fn.ntmps ks→∀ (b:Frame) (cs:List Frame) (a:Act) (μ:Mp Bs) (w:World) (μ0:Mp Bs) (h0:Zd) (w0:World),
  h0.length=k→Rel μ h w→Ext μ0 h0 w0 μ h w→FrRel μ h w fr a.tmps→fn.ntmps≤a.tmps.size→a.defers=[]→Ran C.P fn (lone (b.at a (WM ks)) cs w) b cs μ0 h0 w0 r h'
end
section
variable {Bs:World→Prop}
variable {C:Cfg} {F:Tk→Res} {μ μ0:Mp Bs} {h h0 h':Zd} {w w0:World}
theorem ZrQ {P:Program} {t:TypeId} {v u:Value} (e:(Instr.loadAt t v).run P w=.ok u w):(do loadVar t (←asAddr v):Sem Value).run P w=.ok u w:=by
 cases v with
 | pointer p =>
  cases p with
  | some a=>simpa [Instr.loadAt,Instr.sureAddr,asAddr] using e
  | none=>simp [Instr.loadAt,Instr.sureAddr,stuck] at e
 | _=>simp [Instr.loadAt,Instr.sureAddr,stuck] at e
def ZhG (t:Array Value):ResultVar→Sem Value
 | .tmp i=>pure (t.getD i undef)
 | .cell a ty=>do loadVar ty (←asAddr (t.getD a undef))
theorem ZeR {P:Program} {fr:Fr} {t:Array Value} (hr:Rel μ h w) (hf:FrRel μ h w fr t):∀ (l:List ResultVar) (vs:List AV),ZhS P fr h l=some vs→∃ us:List Value,RepL μ h w vs us∧(l.mapM (ZhG t)).run P w=.ok us w
 | [],vs,e=>by
  simp only [ZhS,Option.some.injEq] at e
  subst e
  exact ⟨[],rfl,by simp⟩
 | x::l,vs,e=>by
  simp only [ZhS] at e
  split at e
  ·rename_i v hv
   split at e
   ·rename_i vs' hvs
    simp only [Option.some.injEq] at e
    subst e
    obtain ⟨us,h1,h2⟩:=ZeR hr hf l vs' hvs
    cases x with
    | tmp i =>
     simp only [Zsi,Option.some.injEq] at hv
     subst hv
     exact ⟨_::us,⟨_,us,rfl,hf i,h1⟩,by simp [List.mapM_cons,ZhG,h2]⟩
    | cell i t' =>
     simp only [Zsi] at hv
     obtain ⟨u,h3,h4⟩:=ZdT hr hv (hf i)
     have h5:=ZrQ h3
     refine ⟨u::us,⟨u,us,rfl,h4,h1⟩,?_⟩
     have h6:(ZhG t (.cell i t')).run P w=.ok u w:=h5
     simp [List.mapM_cons,h6,h2]
   ·simp at e
  ·simp at e
theorem Ztf {vs:List AV} {us:List Value} (r:RepL μ h w vs us):Rep μ h w (Zak vs) (if h:us.toArray.size=1 then us.toArray[0] else .tuple us.toArray):=by
 match vs,us,r with
 | [],us,r =>
  have:us=[]:=r
  subst this
  exact ⟨[],rfl,rfl⟩
 | [a],us,r =>
  obtain ⟨v,vr,rfl,h1,h2⟩:=r
  have:vr=[]:=h2
  subst this
  simpa [Zak] using h1
 | a::b::l,us,r =>
  obtain ⟨v,vr,rfl,h1,v',vr',rfl,h2,h3⟩:=r
  have:¬((v::v'::vr').toArray.size=1):=by simp
  rw [dif_neg this]
  exact ⟨_,rfl,v,_,rfl,h1,v',_,rfl,h2,h3⟩
theorem Zgg {P:Program} {fn:Func} {fr:Fr} {t:Array Value} {vs:List AV} (hr:Rel μ h w) (hf:FrRel μ h w fr t) (e:ZhS P fr h fn.results.toList=some vs):∃ v,(results fn t).run P w=.ok v w∧Rep μ h w (Zak vs) v:=by
 obtain ⟨us,h1,h2⟩:=ZeR hr hf _ _ e
 refine ⟨_,?_,Ztf h1⟩
 have:results fn t=(do
   let vs ←fn.results.mapM (ZhG t)
   pure (if h:vs.size=1 then vs[0] else .tuple vs)):=rfl
 rw [this,Array.mapM_eq_mapM_toList]
 simp [h2]
theorem ZgG {f k:Nat} {fr:Fr} {r:AV} {fn:Func} {b:Frame} {cs:List Frame} {a:Act} {todo:List Item} (hfn:C.P.funcs[f]? = some fn) (e:ZcB C f k fr h=some (r,h')) (hk:h0.length=k) (hr:Rel μ h w) (ex:Ext μ0 h0 w0 μ h w) (hf:FrRel μ h w fr a.tmps) (hd:a.defers=[]) :
  Ran C.P fn (lone { b.at a todo with mode:=.returning } cs w) b cs μ0 h0 w0 r h':=by
 unfold ZcB at e
 simp only [hfn] at e
 unfold ZcC at e
 split at e
 ·rename_i vs hvs
  obtain ⟨v,h1,h2⟩:=Zgg hr hf hvs
  have cutEnd:∀ {keep:Bool},JW k h (Zfr k h (Zgu keep k h (Zak vs)))=some (r,h')→Ran C.P fn (lone { b.at a todo with mode:=.returning } cs w) b cs μ0 h0 w0 r h':=by
   intro keep e
   unfold JW at e
   split at e
   ·rename_i hu
    unfold Zfr at e
    split at e
    ·rename_i a1 ha
     simp only [Option.some.injEq,Prod.mk.injEq] at e
     obtain ⟨rfl,rfl⟩:=e
     exact ⟨a,todo,w,v,μ,.refl _ _,hd,h1,hr.cut hu,ex.cut (by omega),ZdV hr _ _ v ha h2⟩
    ·simp at e
   ·simp at e
  have nilEnd:∀ z,Z6 k (ZP (h.take k))=true→Zak vs=.nils→some (AV.own k 0,h.take k++[Blk.rows z [] false])=some (r,h')→Ran C.P fn (lone { b.at a todo with mode:=.returning } cs w) b cs μ0 h0 w0 r h':=by
   intro z hu hx e
   rw [hx] at h2
   simp only [Option.some.injEq,Prod.mk.injEq] at e
   obtain ⟨rfl,rfl⟩:=e
   have hcut:=hr.cut hu
   have hlen:(h.take k).length=k:=by
    have:=ex.length_le
    simp
    omega
   have hp:=Ext.push hcut (.rows z [] false) none
   have hv:v=.slice none 0 0:=h2
   refine ⟨a,todo,w,v,_,.refl _ _,hd,h1,Rel.push hcut (.rows z [] false) none (.inl ⟨rfl,Zv _ _⟩),(ex.cut (by omega)).trans hp,?_⟩
   have hnew:(h.take k++[Blk.rows z [] false])[k]? = some (.rows z [] false):=by
    rw [List.getElem?_append_right (by omega),hlen];simp
   exact ⟨z,[],false,none,0,hnew,Nat.le_refl _,hv,fun _=>⟨Nat.le_refl _,fun _=>rfl,.inl rfl⟩⟩
  have freEnd:Z6 k (ZP (h.take k))=true→ZcI k h (Zak vs)=some (r,h')→Ran C.P fn (lone { b.at a todo with mode:=.returning } cs w) b cs μ0 h0 w0 r h':=by
   intro hu e
   unfold ZcI at e
   split at e
   ·rename_i l n hx
    rw [hx] at h2
    split at e
    ·rename_i z rs wr hl
     split at e
     ·rename_i hc
      simp only [Option.some.injEq,Prod.mk.injEq] at e
      obtain ⟨rfl,rfl⟩:=e
      obtain ⟨μ',q1,q2,q3⟩:=ZkW hr ex hk hu hl hc.1 hc.2.1 hc.2.2 h2
      exact ⟨a,todo,w,v,μ',.refl _ _,hd,h1,q1,q2,q3⟩
     ·simp at e
    ·simp at e
   ·rename_i rs hx
    rw [hx] at h2
    simp only [Option.some.injEq,Prod.mk.injEq] at e
    obtain ⟨rfl,rfl⟩:=e
    exact ⟨a,todo,w,v,μ,.refl _ _,hd,h1,hr.cut hu,ex.cut (by omega),PRep.keep (QK (n:=k)) (.lit rs) v h2⟩
   ·rename_i hx
    exact nilEnd 0 hu hx e
   ·simp at e
  split at e
  ·exact cutEnd e
  ·unfold JW at e
   split at e
   ·rename_i hu
    exact freEnd hu e
   ·simp at e
  ·exact cutEnd e
  ·obtain ⟨μ',q1,q2,q3⟩:=Zhl hk hr ex h2 e
   exact ⟨a,todo,w,v,μ',.refl _ _,hd,h1,q1,q2,q3⟩
  ·rename_i z _ _ _ _
   unfold JW at e
   split at e
   ·rename_i hu
    unfold Zlg at e
    split at e
    ·rename_i hx
     exact nilEnd _ hu hx e
    ·exact freEnd hu e
   ·simp at e
 ·simp at e
theorem RepL.set {x:AV}:∀ (cs:List AV) (vs:List Value) (j:Nat),RepL μ h w cs vs→(∀ v,vs[j]? = some v→Rep μ h w x v)→RepL μ h w (cs.set j x) vs
 | [],vs,j,r,_=>r
 | c::cs,vs,j,r,hx=>by
  obtain ⟨v,vr,rfl,h1,h2⟩:=r
  cases j with
  | zero=>exact ⟨v,vr,rfl,hx v rfl,h2⟩
  | succ j=>exact ⟨v,vr,rfl,h1,RepL.set cs vr j h2 fun u hu=>hx u (by simpa using hu)⟩
theorem W8 {x:AV} (hx:ZB x=true):∀ (cs:List AV) (j:Nat),Zl cs=true→Zl (cs.set j x)=true
 | [],_,_=>rfl
 | c::cs,j,e=>by
  simp only [Zl,Bool.and_eq_true] at e
  cases j with
  | zero=>simp [Zl,hx,e.2]
  | succ j=>simp [Zl,e.1,W8 hx cs j e.2]
theorem Qf {t:Array Value}:∀ (os:List (Nat×Option Nat×Nat×Bool)) (fr fr':Fr) (h h':Zd) (μ:Mp Bs),Rel μ h w→FrRel μ h w fr t→WN fr h os=(fr',h')→∃ μ',Rel μ' h' w∧Ext μ h w μ' h' w∧FrRel μ' h' w fr' t
 | [],fr,fr',h,h',μ,hr,hf,e=>by
  simp only [WN,Prod.mk.injEq] at e
  obtain ⟨rfl,rfl⟩:=e
  exact ⟨μ,hr,Ext.refl _ _ _,hf⟩
 | (i,some d,z,q)::os,fr,fr',h,h',μ,hr,hf,e=>by
  have rest:WN fr h os=(fr',h')→∃ μ',Rel μ' h' w∧Ext μ h w μ' h' w∧FrRel μ' h' w fr' t:=Qf os _ _ _ _ _ hr hf
  simp only [WN] at e
  split at e
  ·split at e
   ·rename_i l o hx _ cs hl
    split at e
    ·rename_i hn
     have hp:=Ext.push hr (.rows z [] q) none
     have hr1:Rel (μ.set h.length none) (h++[Blk.rows z [] q]) w:=Rel.push hr (.rows z [] q) none (.inl ⟨rfl,Zv _ _⟩)
     have hlt:=(List.getElem?_eq_some_iff.1 hl).1
     have hl1:(h++[Blk.rows z [] q])[l]? = some (.cells cs):=by rw [List.getElem?_append_left hlt];exact hl
     obtain ⟨b,vs,T,h1,h2,h3,h4⟩:=hr1.blk l _ hl1
     have hu:Ext (μ.set h.length none) (h++[Blk.rows z [] q]) w (μ.set h.length none) ((h++[Blk.rows z [] q]).set l (.cells (cs.set (o+d) (.own h.length 0)))) w :=
      Ext.update hr1 hl1 h1 h2 h2 (fun _ _=>rfl) rfl rfl rfl (Nat.le_refl _) rfl (fun _ _ hv _=>hv) (fun _ _=>trivial) trivial
     have hlen:h.length≠l:=by omega
     have hr2:Rel (μ.set h.length none) ((h++[Blk.rows z [] q]).set l (.cells (cs.set (o+d) (.own h.length 0)))) w:=by
      refine Rel.update hr1 hl1 h1 (fun _ _=>rfl) hu ⟨b,vs,T,h1,h2,W8 rfl _ _ h3,RepL.set cs vs (o+d) (RepL.ext hu _ _ h4) fun v hv=>?_⟩
      have h5:=(RepL.at cs vs h4).2 (o+d) .nils hn
      obtain ⟨v',h6,h7⟩:=h5
      have:v'=v:=by
       have h6':vs[o+d]? = some v':=h6
       rw [h6'] at hv
       simpa using hv
      subst this
      have hv':v'=.slice none 0 0:=h7
      exact ⟨z,[],q,none,0,by rw [List.getElem?_set_ne (fun e=>hlen e.symm)];simp,Nat.le_refl _,hv',fun _=>⟨Nat.le_refl _,fun _=>rfl,.inl rfl⟩⟩
     obtain ⟨μ',q1,q2,q3⟩:=Qf os _ _ _ _ _ hr2 (FrRel.ext (hp.trans hu) hf) e
     exact ⟨μ',q1,(hp.trans hu).trans q2,q3⟩
    ·exact rest e
   ·exact rest e
  ·exact rest e
 | (i,none,z,q)::os,fr,fr',h,h',μ,hr,hf,e=>by
  simp only [WN] at e
  split at e
  ·rename_i hx
   have hp:=Ext.push hr (.rows z [] q) none
   have hr':Rel (μ.set h.length none) (h++[.rows z [] q]) w:=Rel.push hr (.rows z [] q) none (.inl ⟨rfl,Zv _ _⟩)
   have hv:=hf i
   rw [hx] at hv
   have hv':t.getD i undef=.slice none 0 0:=hv
   have hf':FrRel (μ.set h.length none) (h++[.rows z [] q]) w ((i,.own h.length 0)::fr) t:=fun j=>by
    simp only [get]
    split
    ·rename_i hij
     subst hij
     exact ⟨z,[],q,none,0,by simp,Nat.le_refl _,hv',fun _=>⟨Nat.le_refl _,fun _=>rfl,.inl rfl⟩⟩
    ·exact Rep.ext hp _ _ (hf j)
   obtain ⟨μ',h1,h2,h3⟩:=Qf os _ _ _ _ _ hr' hf' e
   exact ⟨μ',h1,hp.trans h2,h3⟩
  ·exact Qf os _ _ _ _ _ hr hf e
theorem J4 {t:Array Value} {fr:Fr}:∀ (os:List (Nat×Nat×TypeId)) (h:Zd) (μ:Mp Bs),Rel μ h w→FrRel μ h w fr t→∃ μ',Rel μ' (Wz fr h os) w∧Ext μ h w μ' (Wz fr h os) w∧FrRel μ' (Wz fr h os) w fr t
 | [],h,μ,hr,hf=>⟨μ,hr,Ext.refl _ _ _,hf⟩
 | (i,d,ty)::os,h,μ,hr,hf=>by
  have rest:∃ μ',Rel μ' (Wz fr h os) w∧Ext μ h w μ' (Wz fr h os) w∧FrRel μ' (Wz fr h os) w fr t:=J4 os h μ hr hf
  simp only [Wz]
  split
  ·rename_i ty' l o hx
   split
   ·rename_i cs hl
    split
    ·rename_i hn
     have hp:=Ext.push hr (.rows 1 [] false) none
     have hr1:Rel (μ.set h.length none) (h++[Blk.rows 1 [] false]) w:=Rel.push hr (.rows 1 [] false) none (.inl ⟨rfl,Zv _ _⟩)
     have hlt:=(List.getElem?_eq_some_iff.1 hl).1
     have hl1:(h++[Blk.rows 1 [] false])[l]? = some (.cells cs):=by rw [List.getElem?_append_left hlt];exact hl
     obtain ⟨b,vs,T,h1,h2,h3,h4⟩:=hr1.blk l _ hl1
     have hu:Ext (μ.set h.length none) (h++[Blk.rows 1 [] false]) w (μ.set h.length none) ((h++[Blk.rows 1 [] false]).set l (.cells (cs.set (o+d) (.town ty h.length 0)))) w :=
      Ext.update hr1 hl1 h1 h2 h2 (fun _ _=>rfl) rfl rfl rfl (Nat.le_refl _) rfl (fun _ _ hv _=>hv) (fun _ _=>trivial) trivial
     have hlen:h.length≠l:=by omega
     have hr2:Rel (μ.set h.length none) ((h++[Blk.rows 1 [] false]).set l (.cells (cs.set (o+d) (.town ty h.length 0)))) w:=by
      refine Rel.update hr1 hl1 h1 (fun _ _=>rfl) hu ⟨b,vs,T,h1,h2,W8 rfl _ _ h3,RepL.set cs vs (o+d) (RepL.ext hu _ _ h4) fun v hv=>?_⟩
      have h5:=(RepL.at cs vs h4).2 (o+d) .nils hn
      obtain ⟨v',h6,h7⟩:=h5
      have:v'=v:=by
       have h6':vs[o+d]? = some v':=h6
       rw [h6'] at hv
       simpa using hv
      subst this
      have hv':v'=.slice none 0 0:=h7
      exact ⟨1,[],false,none,0,by rw [List.getElem?_set_ne (fun e=>hlen e.symm)];simp,Nat.le_refl _,hv',fun _=>⟨Nat.le_refl _,fun _=>rfl,.inl ⟨rfl,rfl⟩⟩⟩
     obtain ⟨μ',q1,q2,q3⟩:=J4 os _ _ hr2 (FrRel.ext (hp.trans hu) hf)
     exact ⟨μ',q1,(hp.trans hu).trans q2,q3⟩
    ·exact rest
   ·exact rest
  ·exact rest
theorem OpsFit.mono {n m:Nat} {ops:Array Oper} (h:OpsFit n ops) (hn:n≤m):OpsFit m ops:=fun i o ho d hd=>Nat.lt_of_lt_of_le (h i o ho d hd) hn
theorem ZhU (hC:CfgOk Bs C) (hF:X5 Bs C.P F) {f id n:Nat} {ops:Array Oper} {draw:Bool} {fr fr':Fr} {a:Act} (hok:Qi C f n (.region id ops draw)) (hn:n≤a.tmps.size) (hr:Rel μ h w) (hf:FrRel μ h w fr a.tmps)
  (e:JY C F f id ops.toList draw fr h=some (fr',h')):(Code.region id ops draw).wp C.P (fun x a' w'=>x=.normal∧∃ μ',Rel μ' h' w'∧Ext μ h w μ' h' w'∧FrRel μ' h' w' fr' a'.tmps∧a'.tmps.size=a.tmps.size∧a'.defers=a.defers) a w:=by
 obtain ⟨hfit,hdraw⟩:=hok
 have hE:Zwd μ h w a fr' h' (fun x a' w'=>x=.normal∧∃ μ',Rel μ' h' w'∧Ext μ h w μ' h' w'∧FrRel μ' h' w' fr' a'.tmps∧a'.tmps.size=a.tmps.size∧a'.defers=a.defers) :=
  fun a' μ' w' q1 q2 q3 q4 q5=>⟨rfl,μ',q1,q2,q3,q4,q5⟩
 cases draw with
 | false =>
  simp only [JY] at e
  refine wp_region ?_
  have:=ZbW hF ops.toList 0 fr fr' h h' a μ w (by simp) (hfit.mono hn) hr hf e hE
  simpa [List.range_eq_range'] using this
 | true =>
  simp only [JY] at e
  obtain ⟨B,hO⟩:=hdraw rfl
  exact Zlk hF hO hC.mixed (hfit.mono hn) hr hf e hE
end
section
variable {Bs:World→Prop}
variable {C:Cfg} {F:Tk→Res}
theorem ItsOk.cons {f n:Nat} {x:It} {ks:List It} (h:Zvm C f n x) (hs:ItsOk C f n ks):ItsOk C f n (x::ks):=fun y hy=>by
 rcases List.mem_cons.1 hy with rfl | hy
 ·exact h
 ·exact hs y hy
theorem ItsOk.tail {f n:Nat} {x:It} {ks:List It} (h:ItsOk C f n (x::ks)):ItsOk C f n ks:=fun y hy=>h y (List.mem_cons_of_mem _ hy)
theorem ItsOk.head {f n:Nat} {x:It} {ks:List It} (h:ItsOk C f n (x::ks)):Zvm C f n x:=h x (by simp)
theorem Zg1:∀ (args:List AV) (vs:List Value) (n i:Nat) {μ:Mp Bs} {h:Zd} {w:World},RepL μ h w args vs→Rep μ h w (get (X9 n args) (n+i)) (vs.getD i undef)
 | [],vs,n,i,_,_,_,r=>by
  have:vs=[]:=r
  subst this
  simp [X9,get,Rep,PRep]
 | a::r,vs,n,i,μ,h,w,x=>by
  obtain ⟨v,vr,rfl,h1,h2⟩:=x
  simp only [X9,get]
  cases i with
  | zero=>simpa using h1
  | succ i =>
   have:¬n=n+(i+1):=by omega
   rw [if_neg this]
   have:=Zg1 r vr (n+1) i h2
   rw [show n+(i+1)=n+1+i by omega]
   simpa using this
theorem ZgH:∀ (args:List AV) (n i:Nat),n+args.length≤i→get (X9 n args) i=.any
 | [],_,_,_=>rfl
 | a::r,n,i,hi=>by
  simp only [List.length_cons] at hi
  simp only [X9,get]
  rw [if_neg (by omega)]
  exact ZgH r (n+1) i (by omega)
theorem RepL.length {μ:Mp Bs} {h:Zd} {w:World}:∀ {l:List AV} {vs:List Value},RepL μ h w l vs→l.length=vs.length
 | [],vs,r=>by
  have:vs=[]:=r
  subst this;rfl
 | a::r,vs,x=>by
  obtain ⟨v,vr,rfl,_,h2⟩:=x
  simp [RepL.length h2]
theorem Zou {args:List AV} {vs:List Value} {μ:Mp Bs} {h:Zd} {w:World} (m:Nat) (r:RepL μ h w args vs):FrRel μ h w (X9 0 args) (vs.toArray++Array.replicate (m - vs.toArray.size) undef):=fun i=>by
 rcases Nat.lt_or_ge i args.length with hi | hi
 ·have:=Zg1 args vs 0 i r
  rw [Nat.zero_add] at this
  have hlen:=r.length
  rw [Array.getD_eq_getD_getElem?,Array.getElem?_append_left (by simp;omega)]
  simpa [List.getD_eq_getElem?_getD] using this
 ·rw [ZgH args 0 i (by omega)]
  exact trivial
theorem ZhH {f:Nat} {args:List AV} {h h':Zd} {r:AV} (hC:CfgOk Bs C) (hR:ZnI Bs C F) (hg:C.good f=true) {os:List (Nat×Nat×TypeId)} (e:enter F f args h os C.P.funcs[f]? = some (r,h')):Go.Proofs.Enters C.P f∧Yb Bs C.P f args h r h':=by
 obtain ⟨fn,c,hfn,hb,hname,hok⟩:=hC.good f hg
 refine ⟨Go.Proofs.enters_of hfn hname hb,fun μ w vs hr ha cs=>?_⟩
 unfold enter at e
 simp only [hfn,hb] at e
 let b:Frame:={ (default:Frame) with fn:=f,kind:=.normal }
 have henter:Frame.enter C.P f vs.toArray .normal=b.at { tmps:=vs.toArray++Array.replicate (fn.ntmps - vs.toArray.size) undef,defers:=[] } [.code c]:=by
  simp [Frame.enter,Frame.at,hfn,hb,b]
 obtain ⟨μ1,q1,q2,q3⟩:=J4 os h μ hr (Zou (fn.ntmps) ha)
 obtain ⟨a',todo,w',v,μ',h1,h2,h3,h4,h5,h6⟩:=hR f _ [.code c] _ _ r h' e fn hfn (ItsOk.cons hok (fun _ hx=>by simp at hx)) b cs
  { tmps:=vs.toArray++Array.replicate (fn.ntmps - vs.toArray.size) undef,defers:=[] } μ1 w μ1 _ w rfl q1 (Ext.refl _ _ _) q3 (by simp;omega) rfl
 refine ⟨.returned v,w',{ b.at a' todo with mode:=.returning },⟨v,μ',rfl,h4,q2.trans h5,h6⟩,?_,rfl,rfl,h2,rfl,fn,hfn,h3⟩
 rw [henter]
 exact h1
end
section
variable {Bs:World→Prop}
variable {C:Cfg} {F:Tk→Res}
variable {μ μ0:Mp Bs} {h h0:Zd} {w w0:World}
theorem Zbp:∀ {h:Zd} {x:Nat},x∈ZP h→∃ (i:Nat) (k:Blk),h[i]? = some k∧x∈Xj k
 | [],x,hx=>by simp [ZP] at hx
 | b::r,x,hx=>by
  simp only [ZP,List.mem_append] at hx
  rcases hx with hx | hx
  ·exact ⟨0,b,rfl,hx⟩
  ·obtain ⟨i,k,h1,h2⟩:=Zbp hx
   exact ⟨i+1,k,by simpa using h1,h2⟩
theorem Zpb {l z n:Nat} {rs:List (List AV)} {wr:Bool} {v:Value} (hr:Rel μ h w) (hl:h[l]? = some (.rows z rs wr)) (hn:rs.length=n) (hz:ZL rs=[]) (hv:OwnRep μ h w l n v) :
  ∃ wr',Rel μ (h.set l (.rows z rs wr')) w∧Ext μ h w μ (h.set l (.rows z rs wr')) w∧PRep (Mut μ (h.set l (.rows z rs wr'))) w (.rows rs) v:=by
 have hlt:l < h.length:=(List.getElem?_eq_some_iff.1 hl).1
 by_cases h0:rs=[]
 ·refine ⟨wr,?_⟩
  have hs:h.set l (.rows z rs wr)=h:=by
   apply List.ext_getElem?
   intro i
   by_cases hi:l=i
   ·subst hi;rw [List.getElem?_set_self hlt,hl]
   ·rw [List.getElem?_set_ne hi]
  rw [hs]
  refine ⟨hr,Ext.refl _ _ _,?_⟩
  obtain ⟨z',rs',wr',base,cap,hl',_,rfl,hv⟩:=hv
  subst h0
  have:n=0:=by simpa using hn.symm
  subst this
  exact ⟨base,cap,rfl,Nat.zero_le _,.inl rfl⟩
 ·refine ⟨false,?_⟩
  rcases hr.blk l _ hl with ⟨h1,_⟩ | ⟨b,vs,T,h1,⟨fz,h2,hf⟩,h3,h4⟩
  ·exact absurd h1 h0
  ·have hu:Ext μ h w μ (h.set l (.rows z rs false)) w:=Ext.update hr hl h1 h2 h2 (fun _ _=>rfl) rfl rfl rfl (Nat.le_refl _) rfl (fun _ _ hv _=>hv) (fun o ho=>by
    rcases ho with ho | ho
    ·simp at ho
    ·exact .inr ho) ⟨rfl,Nat.le_refl _⟩
   have hr1:Rel μ (h.set l (.rows z rs false)) w:=Rel.update hr hl h1 (fun _ _=>rfl) hu (.inr ⟨b,vs,T,h1,⟨fz,h2,by
    rcases hf with hf | hf
    ·exact .inl hf
    ·exact .inr ⟨rfl,hf.2⟩⟩,h3,h4.ext hu⟩)
   refine ⟨hr1,hu,?_⟩
   have hv1:OwnRep μ (h.set l (.rows z rs false)) w l n v:=Rep.ext hu (.own l n) v hv
   obtain ⟨base,cap,h5,h6,h7⟩:=JT hr1 (List.getElem?_set_self hlt) hn hz hv1
   refine ⟨base,cap,h5,h6,h7.imp id ?_⟩
   rintro ⟨b,h8,h9⟩
   exact ⟨b,0,z,h8,h9⟩
theorem ZgB {t:Array Value} {k l l0 z:Nat} {fr:Fr} {rs:List (List AV)} {wr:Bool} {K:Blk} (hk:h0.length=k) (hlt:l < h.length) (hne:l≠l0) (c2:k≤l) (cz:l∉ZL rs) (c3:(Wj fr).contains l=false) (c4:(ZP (h.set l0 K)).contains l=false)
  (r2:Rel μ ((h.set l (.rows z rs wr)).set l0 K) w) (ex:Ext μ0 h0 w0 μ ((h.set l (.rows z rs wr)).set l0 K) w) (hf:FrRel μ ((h.set l (.rows z rs wr)).set l0 K) w fr t) :
  ∃ μ',Rel μ' ((h.set l .hole).set l0 K) w∧Ext μ0 h0 w0 μ' ((h.set l .hole).set l0 K) w∧FrRel μ' ((h.set l .hole).set l0 K) w fr t:=by
 have hno:l∉ZP ((h.set l (.rows z rs wr)).set l0 K):=fun hm=>by
  obtain ⟨j,k',hj,hm⟩:=Zbp hm
  by_cases hjl:l=j
  ·subst hjl
   rw [List.getElem?_set_ne (Ne.symm hne),List.getElem?_set_self hlt] at hj
   simp only [Option.some.injEq] at hj
   subst hj
   exact cz hm
  ·rw [List.set_comm _ _ hne,List.getElem?_set_ne hjl] at hj
   exact absurd (YP hj _ hm) (by simpa using c4)
 have hlt2:l < ((h.set l (.rows z rs wr)).set l0 K).length:=by simpa using hlt
 have heq:((h.set l (.rows z rs wr)).set l0 K).set l .hole=(h.set l .hole).set l0 K:=by
  rw [List.set_comm _ _ (Ne.symm hne),List.set_set]
 have c3':l∉Wj fr:=by simpa using c3
 have r3:=r2.toHole hlt2 hno
 have ex3:=ex.toHole hlt2 (by omega)
 have hf3:FrRel (μ.set l none) (((h.set l (.rows z rs wr)).set l0 K).set l .hole) w fr t:=fun j=>Zfu hlt2 (fun hx=>c3' (FrRel.cut.get_locs _ _ _ hx)) (hf j)
 rw [heq] at r3 ex3 hf3
 exact ⟨_,r3,ex3,hf3⟩
theorem Zlc {t:Array Value} {k:Nat} {fr:Fr} (hk:h0.length=k) (i d:Nat) (hr:Rel μ h w) (ex:Ext μ0 h0 w0 μ h w) (hf:FrRel μ h w fr t):∃ μ',Rel μ' (Zk7 k fr i d h) w∧Ext μ0 h0 w0 μ' (Zk7 k fr i d h) w∧FrRel μ' (Zk7 k fr i d h) w fr t:=by
 have rest:∃ μ',Rel μ' h w∧Ext μ0 h0 w0 μ' h w∧FrRel μ' h w fr t:=⟨μ,hr,ex,hf⟩
 unfold Zk7
 split
 ·rename_i l0 o hx
  split
  ·rename_i cs hl0
   split
   ·rename_i l n hc
    split
    ·rename_i z rs wr hl
     split
     ·rename_i hcc
      obtain ⟨c1,c2,cz,c3,c4⟩:=hcc
      have hlt:l < h.length:=(List.getElem?_eq_some_iff.1 hl).1
      have hne:l≠l0:=fun e=>by subst e;rw [hl] at hl0;simp at hl0
      obtain ⟨b,vs,T,h1,h2,h3,h4⟩:=hr.blk l0 _ hl0
      obtain ⟨v,hv1,hv2⟩:=(RepL.at cs vs h4).2 (o+d) _ hc
      obtain ⟨wr',r1,e1,p1⟩:=Zpb hr hl c1 cz hv2
      have hl0':(h.set l (.rows z rs wr'))[l0]? = some (.cells cs):=by rw [List.getElem?_set_ne hne];exact hl0
      have hu:Ext μ (h.set l (.rows z rs wr')) w μ ((h.set l (.rows z rs wr')).set l0 (.cells (cs.set (o+d) (.rows rs)))) w :=
       Ext.update r1 hl0' h1 h2 h2 (fun _ _=>rfl) rfl rfl rfl (Nat.le_refl _) rfl (fun _ _ hv _=>hv) (fun _ _=>trivial) trivial
      have r2:Rel μ ((h.set l (.rows z rs wr')).set l0 (.cells (cs.set (o+d) (.rows rs)))) w:=by
       refine Rel.update r1 hl0' h1 (fun _ _=>rfl) hu ⟨b,vs,T,h1,h2,W8 rfl _ _ h3,RepL.set cs vs (o+d) (RepL.ext hu _ _ (RepL.ext e1 _ _ h4)) fun u hu'=>?_⟩
       have:u=v:=by
        have hv1':vs[o+d]? = some v:=hv1
        rw [hv1'] at hu'
        simpa using hu'.symm
       subst this
       exact Rep.ext hu (.rows rs) _ (Rep.pure _ _ p1)
      have hcz:l∉ZL rs:=by rw [cz];simp
      exact ZgB hk hlt hne c2 hcz c3 c4 r2 ((ex.trans e1).trans hu) (FrRel.ext hu (FrRel.ext e1 hf))
     ·exact rest
    ·exact rest
   ·exact rest
  ·exact rest
 ·exact rest
theorem SomeRow.same {b:Nat} {vs vs':Array Value} {T T':TypeId} (a:SomeRow w b vs T) (a':SomeRow w b vs' T'):vs=vs':=by
 obtain ⟨f,a⟩:=a
 obtain ⟨f',a'⟩:=a'
 rw [a] at a'
 simp only [Option.some.injEq,Obj.cells.injEq] at a'
 exact a'.1
theorem RowsN.cell {z:Nat} {rs:List (List AV)} {vs:Array Value} {i c:Nat} {row:List AV} {a':AV} (r:RowsN μ h w z rs vs) (hi:rs[i]? = some row) (hs:ZB a'=true) (ha:∀ v,vs[i*z+c]? = some v→Rep μ h w a' v):RowsN μ h w z (rs.set i (row.set c a')) vs:=fun j row' hj=>by
 by_cases hij:i=j
 ·subst hij
  rw [List.getElem?_set_self (List.getElem?_eq_some_iff.1 hi).1] at hj
  obtain rfl:=Option.some.inj hj
  obtain ⟨h1,h2,h3⟩:=r i row hi
  refine ⟨by simpa using h1,W8 hs _ _ h2,fun d b hd=>?_⟩
  by_cases hcd:c=d
  ·subst hcd
   have hlt:c < row.length:=by
    have:=(List.getElem?_eq_some_iff.1 hd).1
    simpa using this
   rw [List.getElem?_set_self hlt] at hd
   obtain rfl:=Option.some.inj hd
   obtain ⟨v,h4,_⟩:=h3 c _ (List.getElem?_eq_getElem hlt)
   exact ⟨v,h4,ha v h4⟩
  ·rw [List.getElem?_set_ne hcd] at hd
   exact h3 d b hd
 ·rw [List.getElem?_set_ne hij] at hj
  exact r j row' hj
theorem ZdF (hr:Rel μ h w) {l z i c:Nat} {rs:List (List AV)} {wr:Bool} {row:List AV} {a:AV} (hl:h[l]? = some (.rows z rs wr)) (hi:rs[i]? = some row) (hc:row[c]? = some a):∃ b vs T v,μ l=some b∧SomeRow w b vs T∧vs[i*z+c]? = some v∧Rep μ h w a v:=by
 rcases hr.blk l _ hl with ⟨h1,_⟩ | ⟨b,vs,T,h1,⟨fz,h2,hf⟩,h3,h4⟩
 ·rw [h1] at hi;simp at hi
 ·obtain ⟨v,h5,h6⟩:=(h4 i row hi).2.2 c a hc
  exact ⟨b,vs,T,v,h1,⟨fz,h2⟩,h5,h6⟩
theorem ZbO (hr:Rel μ h w) {l z i c:Nat} {rs:List (List AV)} {wr:Bool} {row:List AV} {a':AV} (hl:h[l]? = some (.rows z rs wr)) (hi:rs[i]? = some row) (hs:ZB a'=true)
  (ha:∀ b vs T v,μ l=some b→SomeRow w b vs T→vs[i*z+c]? = some v→Rep μ h w a' v):Rel μ (h.set l (.rows z (rs.set i (row.set c a')) wr)) w∧Ext μ h w μ (h.set l (.rows z (rs.set i (row.set c a')) wr)) w:=by
 rcases hr.blk l _ hl with ⟨h1,_⟩ | ⟨b,vs,T,h1,⟨fz,h2,hf⟩,h3,h4⟩
 ·rw [h1] at hi;simp at hi
 ·have hu:Ext μ h w μ (h.set l (.rows z (rs.set i (row.set c a')) wr)) w:=Ext.update hr hl h1 h2 h2 (fun _ _=>rfl) rfl rfl rfl (Nat.le_refl _) rfl (fun _ _ hv _=>hv) (fun o ho=>by
    rcases ho with ho | ho
    ·exact .inl ho
    ·exact .inr (by simpa using ho)) ⟨rfl,by simp⟩
  refine ⟨Rel.update hr hl h1 (fun _ _=>rfl) hu (.inr ⟨b,vs,T,h1,⟨fz,h2,by simpa using hf⟩,by simpa using h3,?_⟩),hu⟩
  exact (h4.cell hi hs fun v hv=>ha b vs T v h1 ⟨fz,h2⟩ hv).ext hu
theorem ZeM {t:Array Value} {k:Nat} {fr:Fr} (hk:h0.length=k) (j c:Nat) (x:Option (Nat×Nat)) (hr:Rel μ h w) (ex:Ext μ0 h0 w0 μ h w) (hf:FrRel μ h w fr t):∃ μ',Rel μ' (Zj1 k fr h j c x) w∧Ext μ0 h0 w0 μ' (Zj1 k fr h j c x) w∧FrRel μ' (Zj1 k fr h j c x) w fr t:=by
 have rest:∃ μ',Rel μ' h w∧Ext μ0 h0 w0 μ' h w∧FrRel μ' h w fr t:=⟨μ,hr,ex,hf⟩
 unfold Zj1
 split
 ·rename_i l n
  split
  ·split
   ·rename_i z rs wr hl
    split
    ·rename_i row hi
     split
     ·rename_i l' n' hc
      split
      ·rename_i z' ts wr' hl'
       split
       ·rename_i hcc
        obtain ⟨c1,c2,cz,c3,c4⟩:=hcc
        have hlt:l' < h.length:=(List.getElem?_eq_some_iff.1 hl').1
        have hne:l'≠l:=fun e=>by
         subst e
         rw [hl] at hl'
         simp only [Option.some.injEq,Blk.rows.injEq] at hl'
         obtain ⟨_,rfl,_⟩:=hl'
         have:=JJ (Zbs cz (List.mem_of_getElem? hi)) (List.mem_of_getElem? hc)
         simp [Zm] at this
        obtain ⟨b,vs,T,v,m1,m2,m3,m4⟩:=ZdF hr hl hi hc
        obtain ⟨wr1,r1,e1,p1⟩:=Zpb hr hl' c1 cz m4
        have hl1:(h.set l' (.rows z' ts wr1))[l]? = some (.rows z rs wr):=by rw [List.getElem?_set_ne hne];exact hl
        obtain ⟨r2,hu⟩:=ZbO (c:=c) (a':=.rows ts) r1 hl1 hi rfl fun b' vs' T' v' q1 q2 q3=>by
         rw [m1] at q1
         obtain rfl:=Option.some.inj q1
         obtain rfl:=q2.same m2
         rw [m3] at q3
         obtain rfl:=Option.some.inj q3
         exact Rep.pure _ _ p1
        have hcz:l'∉ZL ts:=by rw [cz];simp
        exact ZgB hk hlt hne c2 hcz c3 c4 r2 ((ex.trans e1).trans hu) (FrRel.ext hu (FrRel.ext e1 hf))
       ·exact rest
      ·exact rest
     ·rename_i hc
      obtain ⟨b,vs,T,v,m1,m2,m3,m4⟩:=ZdF hr hl hi hc
      obtain ⟨r2,hu⟩:=ZbO (c:=c) (a':=.rows []) hr hl hi rfl fun b' vs' T' v' q1 q2 q3=>by
       rw [m1] at q1
       obtain rfl:=Option.some.inj q1
       obtain rfl:=q2.same m2
       rw [m3] at q3
       obtain rfl:=Option.some.inj q3
       have hv:v=.slice none 0 0:=m4
       exact ⟨none,0,hv,Nat.le_refl _,.inl rfl⟩
      exact ⟨μ,r2,ex.trans hu,FrRel.ext hu hf⟩
     ·exact rest
    ·exact rest
   ·exact rest
  ·exact rest
 ·exact rest
theorem ZlD {t:Array Value} {fr:Fr} (c z:Nat) (q:Bool) (x:Option (Nat×Nat)) (hr:Rel μ h w) (ex:Ext μ0 h0 w0 μ h w) (hf:FrRel μ h w fr t):∃ μ',Rel μ' (ZkO h c z q x) w∧Ext μ0 h0 w0 μ' (ZkO h c z q x) w∧FrRel μ' (ZkO h c z q x) w fr t:=by
 have rest:∃ μ',Rel μ' h w∧Ext μ0 h0 w0 μ' h w∧FrRel μ' h w fr t:=⟨μ,hr,ex,hf⟩
 unfold ZkO
 split
 ·rename_i l n
  split
  ·rename_i y rs wr hl
   split
   ·rename_i row hi
    split
    ·rename_i hc
     have hp:=Ext.push hr (.rows z [] q) none
     have hr1:Rel (μ.set h.length none) (h++[Blk.rows z [] q]) w:=Rel.push hr (.rows z [] q) none (.inl ⟨rfl,Zv _ _⟩)
     have hlt:=(List.getElem?_eq_some_iff.1 hl).1
     have hl1:(h++[Blk.rows z [] q])[l]? = some (.rows y rs wr):=by rw [List.getElem?_append_left hlt];exact hl
     obtain ⟨b,vs,T,v,m1,m2,m3,m4⟩:=ZdF hr1 hl1 hi hc
     obtain ⟨r2,hu⟩:=ZbO (c:=c) (a':=.own h.length 0) hr1 hl1 hi rfl fun b' vs' T' v' q1 q2 q3=>by
      rw [m1] at q1
      obtain rfl:=Option.some.inj q1
      obtain rfl:=q2.same m2
      rw [m3] at q3
      obtain rfl:=Option.some.inj q3
      have hv:v=.slice none 0 0:=m4
      exact ⟨z,[],q,none,0,by simp,Nat.le_refl _,hv,fun _=>⟨Nat.le_refl _,fun _=>rfl,.inl rfl⟩⟩
     exact ⟨_,r2,ex.trans (Ext.trans hp hu),FrRel.ext (Ext.trans hp hu) hf⟩
    ·exact rest
   ·exact rest
  ·exact rest
 ·exact rest
theorem ZiN (σ:Nat→Nat):∀ (fr:Fr) (i:Nat),get (Zpj σ fr) i=ren σ (get fr i)
 | [],_=>rfl
 | (j,v)::r,i=>by
  simp only [Zpj,get]
  split
  ·rfl
  ·exact ZiN σ r i
theorem Zlt {t:Array Value} {k:Nat} {fr:Fr} (hk:h0.length=k) (hr:Rel μ h w) (ex:Ext μ0 h0 w0 μ h w) (hf:FrRel μ h w fr t):∃ μ',Rel μ' (tidy k fr h).2 w∧Ext μ0 h0 w0 μ' (tidy k fr h).2 w∧FrRel μ' (tidy k fr h).2 w (tidy k fr h).1 t:=by
 subst hk
 have rest:∃ μ',Rel μ' h w∧Ext μ0 h0 w0 μ' h w∧FrRel μ' h w fr t:=⟨μ,hr,ex,hf⟩
 unfold tidy ZkR
 obtain ⟨s,hs⟩:=Q9 h 1000 (ZP (h.take h0.length)++Wj fr) (List.range h0.length)
 have hnd:=Xs h 1000 (ZP (h.take h0.length)++Wj fr) (List.range h0.length) List.nodup_range
 generalize YO h 1000 (ZP (h.take h0.length)++Wj fr) (List.range h0.length)=ls at hs hnd ⊢
 split
 ·rename_i hh hsub
  split
  ·rename_i hc
   obtain ⟨h1,h4⟩:=Zdk h _ _ _ hsub
   have hp:IsPart h ls hh:=⟨hnd,h1,h4,Yo hc.1⟩
   refine ⟨Jo μ ls,hp.prel hr,hp.pext (fun i hi=>?_) ?_ ex,fun i=>?_⟩
   ·rw [hs,List.getElem?_append_left (by simpa using hi)]
    simp [hi]
   ·rw [hs];simp
   ·rw [ZiN]
    exact hp.prep (fun l hl=>(XO _ _).1 (Yo hc.2 _ (List.mem_map_of_mem (FrRel.cut.get_locs _ _ _ hl)))) (hf i)
  ·exact rest
 ·exact rest
theorem ZlO {t:Array Value} {k:Nat} {fr:Fr} (hk:h0.length=k) (i c:Nat) (hr:Rel μ h w) (ex:Ext μ0 h0 w0 μ h w) (hf:FrRel μ h w fr t):∃ μ',Rel μ' (ZlM k fr h i c) w∧Ext μ0 h0 w0 μ' (ZlM k fr h i c) w∧FrRel μ' (ZlM k fr h i c) w fr t:=by
 unfold ZlM
 split
 ·exact ZeM hk _ _ _ hr ex hf
 ·exact ⟨μ,hr,ex,hf⟩
theorem Xf {t:Array Value} {k:Nat} (hk:h0.length=k):∀ (c:List Pop) (fr:Fr) (h:Zd) (μ:Mp Bs),Rel μ h w→Ext μ0 h0 w0 μ h w→FrRel μ h w fr t→∃ μ',Rel μ' (QR k c fr h).2 w∧Ext μ0 h0 w0 μ' (QR k c fr h).2 w∧FrRel μ' (QR k c fr h).2 w (QR k c fr h).1 t
 | [],fr,h,μ,hr,ex,hf=>⟨μ,hr,ex,hf⟩
 | .cell i d::r,fr,h,μ,hr,ex,hf=>by
  obtain ⟨μ',q1,q2,q3⟩:=Zlc hk i d hr ex hf
  exact Xf hk r _ _ _ q1 q2 q3
 | .row i d j c::r,fr,h,μ,hr,ex,hf=>by
  obtain ⟨μ',q1,q2,q3⟩:=ZeM hk j c (Zct fr h i d) hr ex hf
  exact Xf hk r _ _ _ q1 q2 q3
 | .new i d c z q::r,fr,h,μ,hr,ex,hf=>by
  obtain ⟨μ',q1,q2,q3⟩:=ZlD c z q (Zct fr h i d) hr ex hf
  exact Xf hk r _ _ _ q1 q2 q3
 | .tidy::r,fr,h,μ,hr,ex,hf=>by
  obtain ⟨μ',q1,q2,q3⟩:=Zlt hk hr ex hf
  exact Xf hk r _ _ _ q1 q2 q3
 | .whenF i::r,fr,h,μ,hr,ex,hf=>by
  simp only [QR]
  split
  ·exact Xf hk r _ _ _ hr ex hf
  ·exact ⟨μ,hr,ex,hf⟩
 | .whenN i d c::r,fr,h,μ,hr,ex,hf=>by
  simp only [QR]
  split
  ·exact Xf hk r _ _ _ hr ex hf
  ·exact ⟨μ,hr,ex,hf⟩
 | .whenT i::r,fr,h,μ,hr,ex,hf=>by
  simp only [QR]
  split
  ·exact Xf hk r _ _ _ hr ex hf
  ·exact ⟨μ,hr,ex,hf⟩
 | .opt i c::r,fr,h,μ,hr,ex,hf=>by
  obtain ⟨μ',q1,q2,q3⟩:=ZlO hk i c hr ex hf
  exact Xf hk r _ _ _ q1 q2 q3
 | .keep l::r,fr,h,μ,hr,ex,hf=>Xf hk r _ _ _ hr ex (hf.restr l)
end
section
variable {Bs:World→Prop}
variable {C:Cfg} {F:Tk→Res}
theorem ZjU (hR:ZnI Bs C F) {f k:Nat} {ks:List It} {n:Nat} {fr:Fr} {h h':Zd} {r:AV} {o:Option (List Nat)} (e:Jk F f k ks n fr h o=some (r,h')) {fn:Func} (hfn:C.P.funcs[f]? = some fn) (hks:ItsOk C f fn.ntmps ks) {b:Frame} {cs:List Frame} {a:Act} {μ:Mp Bs} {w:World} {μ0:Mp Bs} {h0:Zd} {w0:World}
  (hk:h0.length=k) (hr:Rel μ h w) (ex:Ext μ0 h0 w0 μ h w) (hf:FrRel μ h w fr a.tmps) (hn:fn.ntmps≤a.tmps.size) (hd:a.defers=[]):Ran C.P fn (lone (b.at a (WM ks)) cs w) b cs μ0 h0 w0 r h':=by
 cases o with
 | none=>exact hR f k ks fr h r h' e fn hfn hks b cs a μ w μ0 h0 w0 hk hr ex hf hn hd
 | some l =>
  simp only [Jk] at e
  split at e
  ·rename_i hc
   simp only [Bool.and_eq_true,decide_eq_true_eq] at hc
   obtain ⟨h1,h2,h3⟩:=hc
   exact hR f k ks _ _ r h' e fn hfn hks b cs a μ w μ0 h0 w0 hk (hr.cut h3) (ex.cut (by omega)) (FrRel.cut h2 (hf.restr l)) hn hd
  ·exact hR f k ks _ _ r h' e fn hfn hks b cs a μ w μ0 h0 w0 hk hr ex (hf.restr l) hn hd
theorem Zjz {f n id:Nat} {ks:List It} (h:ItsOk C f n ks):∀ ps:List (Nat×List Nat×List Pop),ItsOk C f n (Za3 id ks ps)∧WM (Za3 id ks ps)=WM ks
 | []=>⟨h,rfl⟩
 | (j,l,c)::r=>by
  simp only [Za3]
  split
  ·exact ⟨ItsOk.cons (x:=.pst l c) trivial h,rfl⟩
  ·exact Zjz h r
theorem Zng (hC:CfgOk Bs C) (hF:X5 Bs C.P F) (hR:ZnI Bs C F):ZnI Bs C (Y0 C F):=by
 intro f k ks fr h r h' e fn hfn hks b cs a μ w μ0 h0 w0 hk hr ex hf hn hd
 match ks,hks,e with
 | [],_,e=>exact Ran.of_steps (.one step_end) (ZgG hfn e hk hr ex hf hd)
 | .blk id n::ks,hks,e=>exact Ran.of_steps (.one step_inBlock) (ZjU hR e hfn hks.tail hk hr ex hf hn hd)
 | .lp c none n::ks,hks,e=>exact Ran.of_steps (.one step_inLoop) (hR f k _ fr h r h' e fn hfn (ItsOk.cons hks.head hks) b cs a μ w μ0 h0 w0 hk hr ex hf hn hd)
 | .lp c (some live) n::ks,hks,e =>
  simp only [Y0,JV,Zc5] at e
  split at e
  ·rename_i fr1 h1 hz
   obtain ⟨μ1,q1,q2,q3⟩:=QJ hk live.2 _ _ _ _ _ hr ex (hf.restr live.1) hz
   split at e
   ·rename_i hc
    simp only [Bool.and_eq_true,decide_eq_true_eq] at hc
    obtain ⟨c1,c2,c3⟩:=hc
    exact Ran.of_steps (.one step_inLoop) (hR f k _ _ _ r h' e fn hfn (ItsOk.cons hks.head hks) b cs a μ1 w μ0 h0 w0 hk (q1.cut c3) (q2.cut (by omega)) (FrRel.cut c2 q3) hn hd)
   ·exact Ran.of_steps (.one step_inLoop) (hR f k _ _ _ r h' e fn hfn (ItsOk.cons hks.head hks) b cs a μ1 w μ0 h0 w0 hk q1 q2 q3 hn hd)
  ·simp at e
 | .pst l c::ks,hks,e =>
  simp only [Y0] at e
  obtain ⟨μ1,q1,q2,q3⟩:=Xf hk c _ _ _ hr ex (hf.restr l)
  exact Ran.of_steps (.refl _ _) (hR f k ks _ _ r h' e fn hfn hks.tail b cs a μ1 w μ0 h0 w0 hk q1 q2 q3 hn hd)
 | .code c::ks,hks,e =>
  have hc:Qi C f fn.ntmps c:=hks.head
  cases c with
  | skip=>exact Ran.of_steps (.one step_skip) (hR f k ks fr h r h' e fn hfn hks.tail b cs a μ w μ0 h0 w0 hk hr ex hf hn hd)
  | seq x y=>exact Ran.of_steps (.one step_seq) (hR f k _ fr h r h' e fn hfn (ItsOk.cons hc.1 (ItsOk.cons hc.2 hks.tail)) b cs a μ w μ0 h0 w0 hk hr ex hf hn hd)
  | region id ops draw =>
   simp only [Y0,ZbF] at e
   split at e
   ·rename_i fr1 h1 hreg
    obtain ⟨x,a1,w1,⟨rfl,μ1,q1,q2,q3,q4,q5⟩,harr⟩:=ZhU hC hF hc hn hr hf hreg b (WM ks) cs
    have hp:=Zjz (id:=id) hks.tail (C.post f)
    have hrun:=hR f k _ fr1 h1 r h' e fn hfn hp.1 b cs a1 μ1 w1 μ0 h0 w0 hk q1 (ex.trans q2) q3 (by omega) (by rw [q5];exact hd)
    rw [hp.2] at hrun
    exact Ran.of_steps harr hrun
   ·simp at e
  | cond x p q =>
   simp only [Y0,ZaZ] at e
   split at e
   ·rename_i t ht
    have hx:=ZqX hf x
    rw [ht] at hx
    have hx':a.eval x=.bool t:=hx
    have hstep:=step_cond (P:=C.P) (b:=b) (k:=WM ks) (cs:=cs) (w:=w) (x:=p) (y:=q) hx'
    cases t with
    | true=>exact Ran.of_steps (.one hstep) (hR f k _ fr h r h' e fn hfn (ItsOk.cons hc.1 hks.tail) b cs a μ w μ0 h0 w0 hk hr ex hf hn hd)
    | false=>exact Ran.of_steps (.one hstep) (hR f k _ fr h r h' (by simpa using e) fn hfn (ItsOk.cons (x:=.code q) hc.2 hks.tail) b cs a μ w μ0 h0 w0 hk hr ex hf hn hd)
   ·simp at e
  | block id c =>
   have plain:F (.run f k (.code c::.blk id h.length::ks) fr h)=some (r,h')→Ran C.P fn (lone (b.at a (WM (.code (.block id c)::ks))) cs w) b cs μ0 h0 w0 r h':=fun e =>
    Ran.of_steps (.one step_block) (hR f k _ fr h r h' e fn hfn (ItsOk.cons (x:=.code c) hc (ItsOk.cons (x:=.blk id h.length) trivial hks.tail)) b cs a μ w μ0 h0 w0 hk hr ex hf hn hd)
   simp only [Y0,Zbw] at e
   split at e
   ·rename_i live os fz hl
    split at e
    ·rename_i c'
     unfold ZbM at e
     split at e
     ·rename_i fr2 h2 hz
      obtain ⟨μ1,q1,q2,q3⟩:=Qf os fr _ h _ μ hr hf rfl
      obtain ⟨μ2,p1,p2,p3⟩:=QJ hk fz _ _ _ _ _ q1 (ex.trans q2) (q3.restr live) hz
      exact Ran.of_steps (.head step_block (.one step_loop)) (hR f k _ _ _ r h' e fn hfn (ItsOk.cons (x:=.code c') hc (ItsOk.cons (x:=.lp c' _ _) hc (ItsOk.cons (x:=.blk id _) trivial hks.tail))) b cs a μ2 w μ0 h0 w0 hk p1 p2 p3 hn hd)
     ·simp at e
    ·exact plain e
   ·exact plain e
  | loop c=>exact Ran.of_steps (.one step_loop) (hR f k _ fr h r h' e fn hfn (ItsOk.cons (x:=.code c) hc (ItsOk.cons (x:=.lp c none 0) hc hks.tail)) b cs a μ w μ0 h0 w0 hk hr ex hf hn hd)
  | exit id =>
   simp only [Y0,ZgE] at e
   split at e
   ·rename_i n ks' hu
    obtain ⟨h1,h2⟩:=WG hu
    exact Ran.of_steps (.one (step_exit h1)) (ZjU hR e hfn (fun x hx=>hks x (List.mem_cons_of_mem _ (h2 x hx))) hk hr ex hf hn hd)
   ·simp at e
  | ret=>exact Ran.of_steps (.one step_ret) (ZgG hfn e hk hr ex hf hd)
  | _=>simp [Y0] at e
theorem Zkc (hC:CfgOk Bs C) (hR:ZnI Bs C F):X5 Bs C.P (Y0 C F):=by
 intro f args h r h' e
 simp only [Y0] at e
 split at e
 ·rename_i v hv
  split at e
  ·simp only [Option.some.injEq,Prod.mk.injEq] at e
   obtain ⟨rfl,rfl⟩:=e
   exact hC.prim f args _ hv
  ·simp at e
 ·split at e
  ·rename_i x hx
   simp only [Option.some.injEq] at e
   subst e
   exact hC.primH f args h _ _ hx
  ·split at e
   ·rename_i hg
    exact ZhH hC hR hg e
   ·simp at e
theorem QG (hC:CfgOk Bs C):∀ n,X5 Bs C.P (Go.Ab.runN C n)∧ZnI Bs C (Go.Ab.runN C n)
 | 0=>⟨fun _ _ _ _ _ e=>by simp [Go.Ab.runN] at e,fun _ _ _ _ _ _ _ e=>by simp [Go.Ab.runN] at e⟩
 | n+1=>by
  obtain ⟨h1,h2⟩:=QG hC n
  exact ⟨Zkc hC h2,Zng hC h1 h2⟩
theorem JU (hC:CfgOk Bs C) {n:Nat} {f:Nat} {args:List AV} {h h':Zd} {r:AV} (e:Go.Ab.runN C n (.call f args h)=some (r,h')):Yb Bs C.P f args h r h':=((QG hC n).1 f args h r h' e).2
end
section
variable {Bs:World→Prop}
def lo {α:Type} (a b:Option α):Prop:=a=none∨a=b
theorem lo.map {α β:Type} {a b:Option α} (g:Option α→Option β) (h0:g none=none) (h:lo a b):lo (g a) (g b):=by
 rcases h with h | h
 ·exact .inl (by rw [h,h0])
 ·exact .inr (by rw [h])
def leF (F F':Tk→Res):Prop:=∀ t,lo (F t) (F' t)
end
section
variable {Bs:World→Prop}
variable {C:Cfg} {F F':Tk→Res} {h:Zd} {ev:Operand→AV}
theorem ZpT (hF:leF F F') (args:List AV) (f:AV):lo (Zaj F h args f) (Zaj F' h args f):=by
 unfold Zaj
 split
 ·split
  ·exact (hF _).map ZdC rfl
  ·exact .inr rfl
 ·exact .inr rfl
theorem Zoy (hF:leF F F') (g:Nat) (ls:List Nat) (args:List AV):lo (Jy F g h ls args) (Jy F' g h ls args):=by
 unfold Jy
 split
 ·split
  ·split
   ·exact (hF _).map (QA h ls) rfl
   ·exact .inr rfl
  ·exact .inr rfl
 ·exact .inr rfl
theorem ZgF (hF:leF F F') (g:Nat) (args:List AV) (o:Option (List AV)):lo (XQ F g h args o) (XQ F' g h args o):=by
 unfold XQ
 split
 ·exact (hF _).map (X4 h) rfl
 ·split
  ·exact Zoy hF _ _ _
  ·exact .inr rfl
theorem ZoH (hF:leF F F') (nl:FuncId→Bool) (args:List AV) (f:AV):lo (Yv nl F h args f) (Yv nl F' h args f):=by
 unfold Yv
 split
 ·exact ZgF hF _ _ _
 ·exact ZgF hF _ _ _
 ·exact .inr rfl
theorem Zj2 (hF:leF F F') (o:Op):lo (ZH C F ev h o) (ZH C F' ev h o):=by
 cases o with
 | call c =>
  simp only [ZH,QC]
  split
  ·exact ZpT hF _ _
  ·exact .inr rfl
  ·exact .inr rfl
 | makeFunc f first captured=>cases f<;>exact .inr rfl
 | slice t x lo hi mx=>cases mx<;>exact .inr rfl
 | _=>exact .inr rfl
theorem Zjj (hF:leF F F') (o:Op):lo (Z0 C F ev h o) (Z0 C F' ev h o):=by
 have hd:lo (val h (ZH C F ev h o)) (val h (ZH C F' ev h o)):=(Zj2 hF o).map (val h) rfl
 cases o with
 | call c =>
  simp only [Z0,Zaa]
  split
  ·exact ZoH hF _ _ _
  ·exact .inr rfl
  ·exact .inr rfl
  ·exact .inr rfl
 | alloc t=>exact .inr rfl
 | box t x=>exact .inr rfl
 | store t a v=>exact .inr rfl
 | makeSlice t n m=>exact .inr rfl
 | buildSlice t n ps=>exact .inr rfl
 | makeMap t r=>cases r<;>exact .inr rfl
 | mapUpdate t m k v=>exact .inr rfl
 | insert t m k v=>exact .inr rfl
 | _=>simpa only [Z0] using hd
theorem Zz9 (hF:leF F F'):leF (lv F) (lv F'):=fun t=>by
 unfold lv
 split
 ·exact (hF _).map lvR rfl
 ·exact hF _
theorem ZoV (hF:leF F F') (dy:List (Nat×Nat)) (pl:Nat→Nat) (i:Nat) (o:Op):lo (Xk C F dy pl i ev h o) (Xk C F' dy pl i ev h o):=by
 unfold Xk
 split
 ·exact (Zj2 (Zz9 hF) o).map (val h) rfl
 ·split
  ·exact .inr rfl
  ·exact Zjj hF o
theorem ZeB (hF:leF F F') (all:List Oper):∀ (l:List Oper) (fr:Fr) (h:Zd),lo (Qw C F all l fr h) (Qw C F' all l fr h)
 | [],_,_=>.inr rfl
 | o::l,fr,h=>by
  have step:lo (match Z0 C F (ev fr) h o.op with
    | some (v,h)=>Qw C F all l (put fr o.dst v) h
    | none=>none) (match Z0 C F' (ev fr) h o.op with
    | some (v,h)=>Qw C F' all l (put fr o.dst v) h
    | none=>none):=by
   rcases Zjj (C:=C) (ev:=ev fr) (h:=h) hF o.op with e | e
   ·rw [e];exact .inl rfl
   ·rw [e]
    split
    ·exact ZeB hF all l _ _
    ·exact .inr rfl
  simp only [Qw]
  split
  ·exact step
  ·split
   ·split
    ·exact step
    ·exact ZeB hF all l _ _
   ·exact ZeB hF all l _ _
   ·exact .inr rfl
theorem Zce (hF:leF F F') (dy:List (Nat×Nat)) (pl:Nat→Nat) (all:List Oper):∀ (l:List Oper) (i:Nat) (fr:Fr) (h:Zd),lo (Xm C F dy pl all i l fr h) (Xm C F' dy pl all i l fr h)
 | [],_,_,_=>.inr rfl
 | o::l,i,fr,h=>by
  have step:lo (match Xk C F dy pl i (ev fr) h o.op with
    | some (v,h')=>match Xm C F dy pl all (i+1) l (put fr o.dst v) h' with
     | some (fr',h'',l)=>some (fr',h'',(i,chg h h' (Z9 dy i (ev fr) h o.op))::l)
     | none=>none
    | none=>none) (match Xk C F' dy pl i (ev fr) h o.op with
    | some (v,h')=>match Xm C F' dy pl all (i+1) l (put fr o.dst v) h' with
     | some (fr',h'',l)=>some (fr',h'',(i,chg h h' (Z9 dy i (ev fr) h o.op))::l)
     | none=>none
    | none=>none):=by
   rcases ZoV (C:=C) (ev:=ev fr) (h:=h) hF dy pl i o.op with e | e
   ·rw [e];exact .inl rfl
   ·rw [e]
    split
    ·rename_i v h' _
     rcases Zce hF dy pl all l (i+1) (put fr o.dst v) h' with e2 | e2
     ·rw [e2];exact .inl rfl
     ·rw [e2];exact .inr rfl
    ·exact .inr rfl
  simp only [Xm]
  split
  ·exact step
  ·split
   ·split
    ·exact step
    ·exact Zce hF dy pl all l _ _ _
   ·exact Zce hF dy pl all l _ _ _
   ·exact .inr rfl
theorem ZiQ (hF:leF F F') (f k:Nat) (ks:List It) (n:Nat) (fr:Fr) (h:Zd) (o:Option (List Nat)):lo (Jk F f k ks n fr h o) (Jk F' f k ks n fr h o):=by
 cases o with
 | none=>exact hF _
 | some l =>
  simp only [Jk]
  split
  ·exact hF _
  ·exact hF _
theorem Zq4 (hF:leF F F') (t:Tk):lo (Y0 C F t) (Y0 C F' t):=by
 match t with
 | .call f args h =>
  simp only [Y0]
  split
  ·exact .inr rfl
  ·split
   ·exact .inr rfl
   ·split
    ·unfold enter
     split
     ·split
      ·exact hF _
      ·exact .inr rfl
     ·exact .inr rfl
    ·exact .inr rfl
 | .run f k [] fr h=>exact .inr rfl
 | .run f k (.blk _ _::ks) fr h=>exact ZiQ hF _ _ _ _ _ _ _
 | .run f k (.pst l c::ks) fr h=>exact hF _
 | .run f k (.lp c none n::ks) fr h=>exact hF _
 | .run f k (.lp c (some live) n::ks) fr h =>
  simp only [Y0,JV]
  unfold Zc5
  split
  ·split
   ·exact hF _
   ·exact hF _
  ·exact .inr rfl
 | .run f k (.code c::ks) fr h =>
  cases c with
  | skip=>exact hF _
  | seq a b=>exact hF _
  | region id ops draw =>
   simp only [Y0]
   have:lo (JY C F f id ops.toList draw fr h) (JY C F' f id ops.toList draw fr h):=by
    cases draw with
    | false=>exact ZeB hF _ _ _ _
    | true=>exact (Zce hF _ _ _ _ _ _ _).map (ZdP _) rfl
   rcases this with e | e
   ·rw [e];exact .inl rfl
   ·rw [e]
    unfold ZbF
    split
    ·exact hF _
    ·exact .inr rfl
  | cond x a b =>
   simp only [Y0,ZaZ]
   split
   ·split
    ·exact hF _
    ·exact hF _
   ·exact .inr rfl
  | block id c =>
   simp only [Y0,Zbw]
   split
   ·split
    ·unfold ZbM
     split
     ·exact hF _
     ·exact .inr rfl
    ·exact hF _
   ·exact hF _
  | loop c=>exact hF _
  | exit id =>
   simp only [Y0,ZgE]
   split
   ·exact ZiQ hF _ _ _ _ _ _ _
   ·exact .inr rfl
  | ret=>exact .inr rfl
  | _=>exact .inr rfl
theorem lo.trans {α:Type} {a b c:Option α} (h:lo a b) (h':lo b c):lo a c:=by
 rcases h with h | h
 ·exact .inl h
 ·rw [h];exact h'
theorem Zgt:∀ (n:Nat) (t:Tk),lo (Go.Ab.runN C n t) (Go.Ab.runN C (n+1) t)
 | 0,_=>.inl rfl
 | n+1,t=>Zq4 (C:=C) (F:=Go.Ab.runN C n) (F':=Go.Ab.runN C (n+1)) (Zgt n) t
theorem Zkn (n:Nat) (t:Tk):∀ k,lo (Go.Ab.runN C n t) (Go.Ab.runN C (n+k) t)
 | 0=>.inr rfl
 | k+1=>(Zkn n t k).trans (Zgt (n+k) t)
theorem Zet {n m:Nat} (hm:n≤m) {t:Tk} {r:AV×Zd} (e:Go.Ab.runN C n t=some r):Go.Ab.runN C m t=some r:=by
 have:=Zkn (C:=C) n t (m - n)
 rw [show n+(m - n)=m by omega] at this
 rcases this with h | h
 ·rw [h] at e;simp at e
 ·rw [←h];exact e
open Classical in
noncomputable def R (C:Cfg) (t:Tk):Res:=if h:∃ n r,Go.Ab.runN C n t=some r then some h.choose_spec.choose else none
theorem Zg4 {n:Nat} {t:Tk} {r:AV×Zd} (e:Go.Ab.runN C n t=some r):R C t=some r:=by
 have h:∃ n r,Go.Ab.runN C n t=some r:=⟨n,r,e⟩
 unfold R
 rw [dif_pos h]
 have h1:=Zet (Nat.le_max_left n h.choose) e
 have h2:=Zet (Nat.le_max_right n h.choose) h.choose_spec.choose_spec
 rw [h1] at h2
 exact h2.symm
theorem Zdo {t:Tk} {r:AV×Zd} (e:R C t=some r):∃ n,Go.Ab.runN C n t=some r:=by
 unfold R at e
 split at e
 ·rename_i h
  simp only [Option.some.injEq] at e
  exact ⟨_,e▸h.choose_spec.choose_spec⟩
 ·simp at e
theorem ZsO {t:Tk} (e:R C t=none) (n:Nat):Go.Ab.runN C n t=none:=by
 cases h:Go.Ab.runN C n t with
 | none=>rfl
 | some r=>rw [Zg4 h] at e;simp at e
def Ev {α:Type} (C:Cfg) (G:(Tk→Res)→α):Prop:=∃ n,∀ m,n≤m→G (Go.Ab.runN C m)=G (R C)
theorem Ev.ask (t:Tk):Ev C fun F=>F t:=by
 cases e:R C t with
 | none=>exact ⟨0,fun m _=>by show Go.Ab.runN C m t=R C t;rw [e,ZsO e m]⟩
 | some r =>
  obtain ⟨n,h⟩:=Zdo e
  exact ⟨n,fun m hm=>by show Go.Ab.runN C m t=R C t;rw [e,Zet hm h]⟩
theorem Ev.no {α:Type} (x:α):Ev C fun _=>x:=⟨0,fun _ _=>rfl⟩
theorem Ev.map {α β:Type} {G:(Tk→Res)→α} (h:Ev C G) (f:α→β):Ev C fun F=>f (G F):=by
 obtain ⟨n,h⟩:=h
 exact ⟨n,fun m hm=>congrArg f (h m hm)⟩
theorem Ev.bind {α β:Type} {G:(Tk→Res)→α} (h:Ev C G) (H:α→(Tk→Res)→β) (h':∀ a,Ev C (H a)):Ev C fun F=>H (G F) F:=by
 obtain ⟨n,h⟩:=h
 obtain ⟨k,h'⟩:=h' (G (R C))
 exact ⟨n+k,fun m hm=>by show H (G _) _=H (G _) _;rw [h m (by omega),h' m (by omega)]⟩
theorem ZpF (args:List AV) (f:AV):Ev C fun F=>Zaj F h args f:=by
 unfold Zaj
 split
 ·split
  ·exact (Ev.ask _).map ZdC
  ·exact Ev.no _
 ·exact Ev.no _
theorem Zn8 (g:Nat) (ls:List Nat) (args:List AV):Ev C fun F=>Jy F g h ls args:=by
 unfold Jy
 split
 ·split
  ·split
   ·exact (Ev.ask _).map (QA h ls)
   ·exact Ev.no _
  ·exact Ev.no _
 ·exact Ev.no _
theorem ZgV (g:Nat) (args:List AV) (o:Option (List AV)):Ev C fun F=>XQ F g h args o:=by
 unfold XQ
 split
 ·exact (Ev.ask _).map (X4 h)
 ·split
  ·exact Zn8 _ _ _
  ·exact Ev.no _
theorem ZoY (nl:FuncId→Bool) (args:List AV) (f:AV):Ev C fun F=>Yv nl F h args f:=by
 unfold Yv
 split
 ·exact ZgV _ _ _
 ·exact ZgV _ _ _
 ·exact Ev.no _
theorem ZjN (o:Op):Ev C fun F=>ZH C F ev h o:=by
 cases o with
 | call c =>
  simp only [ZH,QC]
  split
  ·exact ZpF _ _
  ·exact Ev.no _
  ·exact Ev.no _
 | makeFunc f first captured=>cases f<;>exact Ev.no _
 | slice t x lo hi mx=>cases mx<;>exact Ev.no _
 | _=>exact Ev.no _
theorem Zjv (o:Op):Ev C fun F=>Z0 C F ev h o:=by
 have hd:Ev C fun F=>val h (ZH C F ev h o):=(ZjN o).map (val h)
 cases o with
 | call c =>
  simp only [Z0,Zaa]
  split
  ·exact ZoY _ _ _
  ·exact Ev.no _
  ·exact Ev.no _
  ·exact Ev.no _
 | alloc t=>exact Ev.no _
 | box t x=>exact Ev.no _
 | store t a v=>exact Ev.no _
 | makeSlice t n m=>exact Ev.no _
 | buildSlice t n ps =>
  simp only [Z0]
  exact (ZjN _).map (Jl h (Jv h ev n ps.toList (es C.P t)))
 | makeMap t r=>cases r<;>exact Ev.no _
 | mapUpdate t m k v=>exact Ev.no _
 | insert t m k v=>exact Ev.no _
 | _=>simpa only [Z0] using hd
theorem ZzH (t:Tk):Ev C fun F=>lv F t:=by
 unfold lv
 split
 ·exact (Ev.ask _).map lvR
 ·exact Ev.ask _
theorem Znl (args:List AV) (f:AV):Ev C fun F=>Zaj (lv F) h args f:=by
 unfold Zaj
 split
 ·split
  ·exact (ZzH _).map ZdC
  ·exact Ev.no _
 ·exact Ev.no _
theorem Zor (o:Op):Ev C fun F=>ZH C (lv F) ev h o:=by
 cases o with
 | call c =>
  simp only [ZH,QC]
  split
  ·exact Znl _ _
  ·exact Ev.no _
  ·exact Ev.no _
 | makeFunc f first captured=>cases f<;>exact Ev.no _
 | slice t x lo hi mx=>cases mx<;>exact Ev.no _
 | _=>exact Ev.no _
theorem ZqJ (dy:List (Nat×Nat)) (pl:Nat→Nat) (i:Nat) (o:Op):Ev C fun F=>Xk C F dy pl i ev h o:=by
 unfold Xk
 split
 ·exact (Zor o).map (val h)
 ·split
  ·exact Ev.no _
  ·exact Zjv o
theorem Zez (all:List Oper):∀ (l:List Oper) (fr:Fr) (h:Zd),Ev C fun F=>Qw C F all l fr h
 | [],_,_=>Ev.no _
 | o::l,fr,h=>by
  have step:Ev C fun F=>(match Z0 C F (Go.Ab.ev fr) h o.op with
    | some (v,h)=>Qw C F all l (put fr o.dst v) h
    | none=>none):=by
   refine Ev.bind (Zjv (ev:=Go.Ab.ev fr) (h:=h) o.op) (fun (x:Option (AV×Zd)) (F:Tk→Res)=>(match x with
    | some (v,h)=>Qw C F all l (put fr o.dst v) h
    | none=>none:Option (Fr×Zd))) ?_
   rintro (_ | ⟨v,h'⟩)
   ·exact Ev.no _
   ·exact Zez all l _ _
  simp only [Qw]
  split
  ·exact step
  ·split
   ·split
    ·exact step
    ·exact Zez all l _ _
   ·exact Zez all l _ _
   ·exact Ev.no _
theorem ZcG (dy:List (Nat×Nat)) (pl:Nat→Nat) (all:List Oper):∀ (l:List Oper) (i:Nat) (fr:Fr) (h:Zd),Ev C fun F=>Xm C F dy pl all i l fr h
 | [],_,_,_=>Ev.no _
 | o::l,i,fr,h=>by
  have step:Ev C fun F=>(match Xk C F dy pl i (Go.Ab.ev fr) h o.op with
    | some (v,h')=>match Xm C F dy pl all (i+1) l (put fr o.dst v) h' with
     | some (fr',h'',l)=>some (fr',h'',(i,chg h h' (Z9 dy i (Go.Ab.ev fr) h o.op))::l)
     | none=>none
    | none=>none):=by
   refine Ev.bind (ZqJ (ev:=Go.Ab.ev fr) (h:=h) dy pl i o.op) (fun (x:Option (AV×Zd)) (F:Tk→Res)=>(match x with
    | some (v,h')=>match Xm C F dy pl all (i+1) l (put fr o.dst v) h' with
     | some (fr',h'',l)=>some (fr',h'',(i,chg h h' (Z9 dy i (Go.Ab.ev fr) h o.op))::l)
     | none=>none
    | none=>none:Option (Fr×Zd×List (Nat×List Nat)))) ?_
   rintro (_ | ⟨v,h'⟩)
   ·exact Ev.no _
   ·exact (ZcG dy pl all l (i+1) (put fr o.dst v) h').map fun x=>match x with
     | some (fr',h'',l)=>some (fr',h'',(i,chg h h' (Z9 dy i (Go.Ab.ev fr) h o.op))::l)
     | none=>none
  simp only [Xm]
  split
  ·exact step
  ·split
   ·split
    ·exact step
    ·exact ZcG dy pl all l _ _ _
   ·exact ZcG dy pl all l _ _ _
   ·exact Ev.no _
theorem ZjD (f k:Nat) (ks:List It) (n:Nat) (fr:Fr) (h:Zd) (o:Option (List Nat)):Ev C fun F=>Jk F f k ks n fr h o:=by
 cases o with
 | none=>exact Ev.ask _
 | some l =>
  simp only [Jk]
  split
  ·exact Ev.ask _
  ·exact Ev.ask _
theorem ZrD (t:Tk):Ev C fun F=>Y0 C F t:=by
 match t with
 | .call f args h =>
  simp only [Y0]
  split
  ·exact Ev.no _
  ·split
   ·exact Ev.no _
   ·split
    ·unfold enter
     split
     ·split
      ·exact Ev.ask _
      ·exact Ev.no _
     ·exact Ev.no _
    ·exact Ev.no _
 | .run f k [] fr h=>exact Ev.no _
 | .run f k (.blk _ _::ks) fr h=>exact ZjD _ _ _ _ _ _ _
 | .run f k (.pst l c::ks) fr h=>exact Ev.ask _
 | .run f k (.lp c none n::ks) fr h=>exact Ev.ask _
 | .run f k (.lp c (some live) n::ks) fr h =>
  simp only [Y0,JV]
  unfold Zc5
  split
  ·split
   ·exact Ev.ask _
   ·exact Ev.ask _
  ·exact Ev.no _
 | .run f k (.code c::ks) fr h =>
  cases c with
  | skip=>exact Ev.ask _
  | seq a b=>exact Ev.ask _
  | region id ops draw =>
   simp only [Y0]
   have:Ev C fun F=>JY C F f id ops.toList draw fr h:=by
    cases draw with
    | false=>exact Zez _ _ _ _
    | true=>exact (ZcG _ _ _ _ _ _ _).map (ZdP _)
   refine Ev.bind this (fun x F=>ZbF F f k (Za3 id ks (C.post f)) x) ?_
   rintro (_ | ⟨fr',h'⟩)
   ·exact Ev.no _
   ·exact Ev.ask _
  | cond x a b =>
   simp only [Y0,ZaZ]
   split
   ·split
    ·exact Ev.ask _
    ·exact Ev.ask _
   ·exact Ev.no _
  | block id c =>
   simp only [Y0,Zbw]
   split
   ·split
    ·unfold ZbM
     split
     ·exact Ev.ask _
     ·exact Ev.no _
    ·exact Ev.ask _
   ·exact Ev.ask _
  | loop c=>exact Ev.ask _
  | exit id =>
   simp only [Y0,ZgE]
   split
   ·exact ZjD _ _ _ _ _ _ _
   ·exact Ev.no _
  | ret=>exact Ev.no _
  | _=>exact Ev.no _
theorem ZbU (t:Tk):R C t=Y0 C (R C) t:=by
 obtain ⟨n,h⟩:=ZrD (C:=C) t
 cases e:Y0 C (R C) t with
 | some r=>exact Zg4 (n:=n+1) ((h n (Nat.le_refl _)).trans e)
 | none =>
  cases e2:R C t with
  | none=>rfl
  | some r =>
   obtain ⟨m,hm⟩:=Zdo e2
   have h1:=Zet (show m≤n+m+1 by omega) hm
   have h2:Go.Ab.runN C (n+m+1) t=none:=(h (n+m) (by omega)).trans e
   rw [h1] at h2
   simp at h2
theorem ZlS (hC:CfgOk Bs C) {f:Nat} {args:List AV} {h h':Zd} {r:AV} (e:R C (.call f args h)=some (r,h')):Go.Proofs.Enters C.P f∧Yb Bs C.P f args h r h':=by
 obtain ⟨n,e⟩:=Zdo e
 exact (QG hC n).1 f args h r h' e
end
def Zve (acc:List (List Nat)):List Edge→List Nat
 | []=>[]
 | e::r=>if Region.binds .any e=true then e.on::(acc.getD e.on []++Zve acc r) else Zve acc r
def Ztj:List Nat→List Nat
 | []=>[]
 | x::r=>if (Ztj r).contains x=true then Ztj r else x::Ztj r
def Zp9 (acc:List (List Nat)):List Oper→List (List Nat)
 | []=>acc
 | o::r=>Zp9 (acc++[Ztj (Zve acc o.after.toList)]) r
def Zms (i j:Nat) (oi oj:Oper):Bool :=
 match oi.dst,oj.dst with
 | some d,some d'=>!(d==d')||i==j
 | _,_=>true
def ZtY (s:Nat) (o:Oper):Bool :=
 match o.dst with
 | some d=>d==s
 | none=>false
def ZjR (dy:List (Nat×Nat)) (ops:Array Oper) (B:List (List Nat)) (j:Nat) (oj:Oper) (i:Nat) (oi:Oper):Bool :=
 (!(decide (i < j))||(bit B j i||(Oper.apart ops oi oj&&Zdr dy i j oi oj)))&&(Zms i j oi oj&&(Xi oj.op).all fun s=>!(ZtY s oi)||bit B j i)
def Zkh (dy:List (Nat×Nat)) (ops:Array Oper) (B:List (List Nat)) (j:Nat) (oj:Oper):Bool :=
 ((B.getD j []).all fun i=>oj.after.toList.any fun e=>Region.binds .any e&&(e.on==i||bit B e.on i)) &&
 ((oj.after.toList.all fun e=>!(Region.binds .any e)||decide (e.on < j)) &&
 (List.range ops.size).all fun i=>match ops[i]? with
  | none=>true
  | some oi=>ZjR dy ops B j oj i oi)
def ZB2 (dy:List (Nat×Nat)) (ops:Array Oper) (B:List (List Nat)):Bool :=
 (List.range ops.size).all fun j=>match ops[j]? with
  | none=>true
  | some oj=>Zkh dy ops B j oj
def Zy2 (n:Nat) (ops:List Oper):Bool:=ops.all fun o=>match o.dst with
 | some d=>decide (d < n)
 | none=>true
def Za8 (dy:Nat→List (Nat×Nat)) (n:Nat):Code→Bool
 | .region id ops draw=>Zy2 n ops.toList&&(!draw||ZB2 (dy id) ops (Zp9 [] ops.toList))
 | .seq a b=>Za8 dy n a&&Za8 dy n b
 | .cond _ a b=>Za8 dy n a&&Za8 dy n b
 | .block _ c=>Za8 dy n c
 | .loop c=>Za8 dy n c
 | _=>true
def WH (P:Program) (dyn:Nat→Nat→List (Nat×Nat)) (f:Nat):Bool :=
 match P.funcs[f]? with
 | some fn=>match fn.body with
  | some c=>(fn.name == "runtime.NumGoroutine")==false&&Za8 (dyn f) fn.ntmps c
  | none=>false
 | none=>false
theorem Zsa {dy:List (Nat×Nat)} {ops:Array Oper} {B:List (List Nat)} (h:ZB2 dy ops B=true):Ordered dy ops B:=by
 have one:∀ (j:Nat) (oj:Oper),ops[j]? = some oj→Zkh dy ops B j oj=true:=fun j oj hj=>by
  have:=List.all_eq_true.1 h j (List.mem_range.2 (Array.getElem?_eq_some_iff.1 hj).1)
  simpa only [hj] using this
 have two:∀ (i j:Nat) (oi oj:Oper),ops[i]? = some oi→ops[j]? = some oj→ZjR dy ops B j oj i oi=true:=fun i j oi oj hi hj=>by
  have:=one j oj hj
  simp only [Zkh,Bool.and_eq_true] at this
  have:=List.all_eq_true.1 this.2.2 i (List.mem_range.2 (Array.getElem?_eq_some_iff.1 hi).1)
  simpa only [hi] using this
 refine ⟨?_,?_,?_,?_,?_⟩
 ·intro j o hj i hb
  have:=one j o hj
  simp only [Zkh,Bool.and_eq_true] at this
  have h1:=List.all_eq_true.1 this.1 i (by simpa [bit] using hb)
  obtain ⟨e,he,h2⟩:=List.any_eq_true.1 h1
  simp only [Bool.and_eq_true,Bool.or_eq_true,beq_iff_eq] at h2
  exact ⟨e,by simpa using he,h2.1,h2.2⟩
 ·intro i j oi oj hij hi hj
  have:=two i j oi oj hi hj
  simp only [ZjR,Bool.and_eq_true,Bool.or_eq_true,Bool.not_eq_true',decide_eq_false_iff_not] at this
  rcases this.1 with h1 | h1
  ·exact absurd hij h1
  ·exact h1
 ·intro i j oi oj d hi hj hd hd'
  have:=two i j oi oj hi hj
  simp only [ZjR,Bool.and_eq_true] at this
  have h1:=this.2.1
  simp only [Zms,hd,hd',Bool.or_eq_true,Bool.not_eq_true',beq_self_eq_true,Bool.true_eq_false,false_or,beq_iff_eq] at h1
  exact h1
 ·intro j o hj s hs k ok hk hd
  have:=two k j ok o hk hj
  simp only [ZjR,Bool.and_eq_true] at this
  have h1:=List.all_eq_true.1 this.2.2 s hs
  simpa [ZtY,hd] using h1
 ·intro j o hj e he hb
  have:=one j o hj
  simp only [Zkh,Bool.and_eq_true] at this
  have h1:=List.all_eq_true.1 this.2.1 e (by simpa using he)
  simpa [hb] using h1
theorem Zsw {n:Nat} {ops:Array Oper} (h:Zy2 n ops.toList=true):OpsFit n ops:=fun i o ho d hd=>by
 have:=List.all_eq_true.1 h o (by simpa using Array.mem_of_getElem? ho)
 simpa [hd] using this
theorem QX {C:Cfg} {f n:Nat}:∀ c:Code,Za8 (C.dyn f) n c=true→Qi C f n c
 | .region id ops draw,h=>by
  simp only [Za8,Bool.and_eq_true,Bool.or_eq_true,Bool.not_eq_true'] at h
  refine ⟨Zsw h.1,fun hd=>?_⟩
  subst hd
  exact ⟨_,Zsa (h.2.resolve_left (by simp))⟩
 | .seq a b,h=>by
  simp only [Za8,Bool.and_eq_true] at h
  exact ⟨QX a h.1,QX b h.2⟩
 | .cond _ a b,h=>by
  simp only [Za8,Bool.and_eq_true] at h
  exact ⟨QX a h.1,QX b h.2⟩
 | .block _ c,h=>QX c h
 | .loop c,h=>QX c h
 | .skip,_=>trivial
 | .rangeFunc _ _ _ _,_=>trivial
 | .exit _,_=>trivial
 | .scope _,_=>trivial
 | .label _,_=>trivial
 | .goto _,_=>trivial
 | .ret,_=>trivial
 | .refuse _,_=>trivial
theorem Zfv {C:Cfg} {f:Nat} (h:WH C.P C.dyn f=true):Zty C f:=by
 unfold WH at h
 split at h
 ·rename_i fn hfn
  split at h
  ·rename_i c hc
   simp only [Bool.and_eq_true,beq_iff_eq] at h
   exact ⟨fn,c,hfn,hc,h.1,QX c h.2⟩
  ·simp at h
 ·simp at h
section
variable {C:Cfg} {F:Tk→Res}
theorem Zi {f:Nat} {args:List AV} {h:Zd} {fn:Func} {c:Code} (hp:C.prim f args=none) (hp2:C.primH f args h=none) (hg:C.good f=true) (ho:C.ownA f=[]) (hf:C.P.funcs[f]? = some fn) (hb:fn.body=some c) :
  R C (.call f args h)=R C (.run f h.length [.code c] (X9 0 args) h):=by
 rw [ZbU]
 simp only [Y0,hp,hp2,hg,ho,if_true,hf,enter,hb,Wz]
theorem ZmE {f:Nat} {args:List AV} {h h':Zd} {v:AV} (hp:C.prim f args=none) (hp2:C.primH f args h=some (v,h')):R C (.call f args h)=some (v,h'):=by
 rw [ZbU]
 simp only [Y0,hp,hp2]
theorem ZaG {f:Nat} {args:List AV} {v:AV} (hp:C.prim f args=some v):R C (.call f args [])=some (v,[]):=by
 rw [ZbU]
 simp only [Y0,hp]
theorem Zwj {f k:Nat} {ks:List It} {fr:Fr} {h:Zd}:R C (.run f k (.code .skip::ks) fr h)=R C (.run f k ks fr h):=by rw [ZbU];rfl
theorem Zzn {f k:Nat} {a b:Code} {ks:List It} {fr:Fr} {h:Zd}:R C (.run f k (.code (.seq a b)::ks) fr h)=R C (.run f k (.code a::.code b::ks) fr h):=by rw [ZbU];rfl
theorem Zre {f k id:Nat} {ops:List Oper} {ks:List It} {fr:Fr} {h:Zd}:R C (.run f k (.code (.region id ops.toArray false)::ks) fr h)=ZbF (R C) f k (Za3 id ks (C.post f)) (Qw C (R C) ops ops fr h):=by rw [ZbU];rfl
theorem Zuw {f k id:Nat} {ops:List Oper} {ks:List It} {fr:Fr} {h:Zd}:R C (.run f k (.code (.region id ops.toArray true)::ks) fr h)=ZbF (R C) f k (Za3 id ks (C.post f)) (ZdP (C.dyn f id) (Xm C (R C) (C.dyn f id) (ZhN h.length ops) ops 0 ops fr (h++List.replicate (QP ops) .hole))):=by rw [ZbU];rfl
noncomputable def Qv (C:Cfg) (f k:Nat) (ks:List It) (c:List Pop) (fr:Fr) (h:Zd):Res:=R C (.run f k ks (QR k c fr h).1 (QR k c fr h).2)
noncomputable def Zzq (C:Cfg) (f k:Nat) (ks:List It) (c:List Pop) (p:Fr×Zd):Res:=Qv C f k ks c p.1 p.2
theorem ZB4 {f k:Nat} {l:List Nat} {c:List Pop} {ks:List It} {fr:Fr} {h:Zd}:R C (.run f k (.pst l c::ks) fr h)=Qv C f k ks c (restr fr l) h:=by rw [ZbU];rfl
theorem Zo9 {f k:Nat} {ks:List It} {fr:Fr} {h:Zd}:Qv C f k ks [] fr h=R C (.run f k ks fr h):=rfl
theorem Zoe {f k i d:Nat} {r:List Pop} {ks:List It} {fr:Fr} {h:Zd}:Qv C f k ks (.cell i d::r) fr h=Qv C f k ks r fr (Zk7 k fr i d h):=rfl
theorem ZoJ {f k i d j c:Nat} {r:List Pop} {ks:List It} {fr:Fr} {h:Zd}:Qv C f k ks (.row i d j c::r) fr h=Qv C f k ks r fr (Zj1 k fr h j c (Zct fr h i d)):=rfl
theorem ZrB {f k i d c z:Nat} {q:Bool} {r:List Pop} {ks:List It} {fr:Fr} {h:Zd}:Qv C f k ks (.new i d c z q::r) fr h=Qv C f k ks r fr (ZkO h c z q (Zct fr h i d)):=rfl
theorem Znw {f k:Nat} {r:List Pop} {ks:List It} {fr:Fr} {h:Zd}:Qv C f k ks (.tidy::r) fr h=Zzq C f k ks r (tidy k fr h):=rfl
theorem Zln {f k i:Nat} {r:List Pop} {ks:List It} {fr:Fr} {h:Zd}:Qv C f k ks (.whenF i::r) fr h=if isF (get fr i)=true then Qv C f k ks r fr h else R C (.run f k ks fr h):=by
 unfold Qv
 simp only [QR]
 split<;>rfl
theorem ZkD {f k i d c:Nat} {r:List Pop} {ks:List It} {fr:Fr} {h:Zd}:Qv C f k ks (.whenN i d c::r) fr h=if ZrC h c (Zct fr h i d)=true then Qv C f k ks r fr h else R C (.run f k ks fr h):=by
 unfold Qv
 simp only [QR]
 split<;>rfl
theorem Zlo {f k i:Nat} {r:List Pop} {ks:List It} {fr:Fr} {h:Zd}:Qv C f k ks (.whenT i::r) fr h=if isT (get fr i)=true then Qv C f k ks r fr h else R C (.run f k ks fr h):=by
 unfold Qv
 simp only [QR]
 split<;>rfl
theorem ZqT {f k i c:Nat} {r:List Pop} {ks:List It} {fr:Fr} {h:Zd}:Qv C f k ks (.opt i c::r) fr h=Qv C f k ks r fr (ZlM k fr h i c):=rfl
theorem ZnB {f k:Nat} {l:List Nat} {r:List Pop} {ks:List It} {fr:Fr} {h:Zd}:Qv C f k ks (.keep l::r) fr h=Qv C f k ks r (restr fr l) h:=rfl
theorem ZrN {f k:Nat} {r:List Pop} {ks:List It} {fr:Fr} {h:Zd}:Zzq C f k ks r (fr,h)=Qv C f k ks r fr h:=rfl
theorem ZuH {f k:Nat} {x:Operand} {a b:Code} {ks:List It} {fr:Fr} {h:Zd}:R C (.run f k (.code (.cond x a b)::ks) fr h)=ZaZ (R C) f k ks a b fr h (ev fr x):=by rw [ZbU];rfl
theorem ZlX {f k id:Nat} {c:Code} {ks:List It} {fr:Fr} {h:Zd}:R C (.run f k (.code (.block id c)::ks) fr h)=Zbw C (R C) f k ks id fr h c (C.live f id):=by rw [ZbU];rfl
theorem Zu8 {f k id:Nat} {ks:List It} {fr:Fr} {h:Zd}:R C (.run f k (.code (.exit id)::ks) fr h)=ZgE (R C) f k fr h (C.out f id) (unwind id ks):=by rw [ZbU];rfl
theorem ZCa {f k:Nat} {ks:List It} {fr:Fr} {h:Zd}:R C (.run f k (.code .ret::ks) fr h)=ZcB C f k fr h:=by rw [ZbU];rfl
theorem ZAx {f k:Nat} {fr:Fr} {h:Zd}:R C (.run f k [] fr h)=ZcB C f k fr h:=by rw [ZbU];rfl
theorem Zzw {f k id n:Nat} {ks:List It} {fr:Fr} {h:Zd}:R C (.run f k (.blk id n::ks) fr h)=Jk (R C) f k ks n fr h (C.out f id):=by rw [ZbU];rfl
theorem ZlR {f k n:Nat} {ks:List It} {fr:Fr} {h:Zd}:Jk F f k ks n fr h none=F (.run f k ks fr h):=rfl
theorem ZE8 {f k n:Nat} {c:Code} {live:List Nat×List Nat} {ks:List It} {fr:Fr} {h:Zd}:R C (.run f k (.lp c (some live) n::ks) fr h)=JV (R C) f k ks c live n fr h:=by rw [ZbU];rfl
theorem Zk9 {f k n:Nat} {ks:List It} {fr:Fr} {h:Zd} {o:Option (List Nat)}:ZgE F f k fr h o (some (n,ks))=Jk F f k ks n fr h o:=rfl
theorem Zko {f k:Nat} {ks:List It} {a b:Code} {fr:Fr} {h:Zd}:ZaZ F f k ks a b fr h (.bool true)=F (.run f k (.code a::ks) fr h):=rfl
theorem Zhi {f k:Nat} {ks:List It} {a b:Code} {fr:Fr} {h:Zd}:ZaZ F f k ks a b fr h (.bool false)=F (.run f k (.code b::ks) fr h):=rfl
theorem ZvA (i:Nat) (v:AV) (fr:Fr):get ((i,v)::fr) i=v:=by simp [get]
theorem Zt8 (i j:Nat) (v:AV) (fr:Fr) (h:(j==i)=false):get ((j,v)::fr) i=get fr i:=by simp [get,by simpa using h]
theorem Zo5 (fr:Fr) (d:Nat) (v:AV):put fr (some d) v=(d,v)::fr:=rfl
theorem Zqs (fr:Fr) (v:AV):put fr none v=fr:=rfl
theorem Zuq (fr:Fr) (t:Nat):ev fr (.tmp t)=get fr t:=rfl
theorem Zp0 (fr:Fr) (v:Value):ev fr (.const v)=Xr v:=rfl
theorem Zsy (fr:Fr) (f:Nat):ev fr (.func f)=.fn f []:=rfl
end
section
variable {Bs:World→Prop}
theorem ZdK {μ:Mp Bs} {w w':World} (h:RowKit.Below w.heap.size w w'):Ext μ [] w μ [] w' where
 out:=rfl
 still:=rfl
 os:=h.os
 tape:=h.tape
 output:=h.output
 size:=h.size
 len:=Nat.le_refl _
 maps:=fun l es hl=>by simp at hl
 keep:=fun b o v hc hm=>by
  refine ⟨?_,hm⟩
  have:=h.block b (Zcu hc)
  simp only [World.cell?] at hc ⊢
  rw [this];exact hc
 outside:=fun b hb ho=>⟨h.block b hb,ho⟩
 cells:=fun l cs hl=>by simp at hl
 rows:=fun l z rs wr hl=>by simp at hl
 sizes:=fun b vs T hb=>⟨vs,hb.eq (h.block b hb.lt),rfl⟩
theorem X3 {P:Program} {g:FuncId} {args:List AV} {r:AV} {vs0:List Value} {v:Value} (ha:∀ (M:Nat→Nat→Prop) (w:World) (vs:List Value),PRepL M w args vs→vs=vs0) (hr:∀ (M:Nat→Nat→Prop) (w:World),PRep M w r v)
  (hc:∀ w,Bs w→Calls P g vs0.toArray w fun e w'=>e=.returned v∧RowKit.Below w.heap.size w w'):Yb Bs P g args [] r []:=by
 intro μ w vs hrel hargs
 have:=ha _ w vs (RepL.no_own _ _ hargs)
 subst this
 refine (hc w (hrel.base w fun _ _=>rfl)).mono ?_
 rintro e w' ⟨rfl,hb⟩
 have ex:=ZdK (μ:=μ) hb
 exact ⟨v,μ,rfl,hrel.ext_same ex (fun l b hl=>by simp at hl),ex,Rep.pure _ _ (hr _ _)⟩
theorem Zh2 {P:Program} {g:FuncId} {args:List AV} {r:AV} {vs0:List Value} (ha:∀ (M:Nat→Nat→Prop) (w:World) (vs:List Value),PRepL M w args vs→vs=vs0)
  (hc:∀ w,Bs w→Calls P g vs0.toArray w fun e w'=>∃ v,e=.returned v∧RowKit.Below w.heap.size w w'∧∀ M:Nat→Nat→Prop,(∀ b o,M b o→b < w.heap.size)→PRep M w' r v):Yb Bs P g args [] r []:=by
 intro μ w vs hrel hargs
 have:=ha _ w vs (RepL.no_own _ _ hargs)
 subst this
 refine (hc w (hrel.base w fun _ _=>rfl)).mono ?_
 rintro e w' ⟨v,rfl,hb,hr⟩
 have ex:=ZdK (μ:=μ) hb
 refine ⟨v,μ,rfl,hrel.ext_same ex (fun l b hl=>by simp at hl),ex,Rep.pure _ _ (hr _ fun b o hm=>?_)⟩
 rcases hm with ho | ⟨l,k,hl,_⟩
 ·exact hrel.old b o ho
 ·simp at hl
theorem Xg (w:World):RowKit.Below w.heap.size w w:=RowKit.Below.refl _ _
theorem ZiJ (w:World) (n:Nat):RowKit.Below w.heap.size w (w.drewN n):=⟨rfl,rfl,rfl,Nat.le_refl _,fun _ _=>rfl⟩
end
def goS (C:Cfg) (F:Tk→Res) (md:Option (List (Nat×Nat)×(Nat→Nat))) (i:Nat) (fr:Fr) (h:Zd) (o:Op):Option (AV×Zd) :=
 match md with
 | none=>Z0 C F (ev fr) h o
 | some (dy,pl)=>Xk C F dy pl i (ev fr) h o
def goT (md:Option (List (Nat×Nat)×(Nat→Nat))) (i:Nat) (fr:Fr) (h:Zd) (o:Op):List Nat :=
 match md with
 | none=>[]
 | some ([],_)=>[]
 | some (dy,_)=>Z9 dy i (ev fr) h o
def goA (md:Option (List (Nat×Nat)×(Nat→Nat))) (i:Nat) (h h':Zd) (T:List Nat) (acc:List (Nat×List Nat)):List (Nat×List Nat) :=
 match md with
 | none=>[]
 | some ([],_)=>[]
 | some (_::_,_)=>(i,chg h h' T)::acc
def goE (F:Tk→Res) (md:Option (List (Nat×Nat)×(Nat→Nat))) (f k:Nat) (ks:List It) (fr:Fr) (h:Zd) (acc:List (Nat×List Nat)):Res :=
 match md with
 | none=>F (.run f k ks fr h)
 | some (dy,_)=>if YA dy fr acc=true then F (.run f k ks fr h) else none
def go (C:Cfg) (F:Tk→Res) (md:Option (List (Nat×Nat)×(Nat→Nat))) (all:List Oper) (f k:Nat) (ks:List It):Nat→List Oper→Fr→Zd→List (Nat×List Nat)→Res
 | _,[],fr,h,acc=>goE F md f k ks fr h acc
 | i,o::rest,fr,h,acc=>match o.guard with
  | none=>(match goS C F md i fr h o.op with
   | some (v,h')=>go C F md all f k ks (i+1) rest (put fr o.dst v) h' (goA md i h h' (goT md i fr h o.op) acc)
   | none=>none)
  | some (j,want)=>match ZbL fr (XH all j) with
   | .bool b=>if b=want then (match goS C F md i fr h o.op with
     | some (v,h')=>go C F md all f k ks (i+1) rest (put fr o.dst v) h' (goA md i h h' (goT md i fr h o.op) acc)
     | none=>none) else go C F md all f k ks (i+1) rest (put fr o.dst (.tup [])) h acc
   | .tup []=>go C F md all f k ks (i+1) rest (put fr o.dst (.tup [])) h acc
   | _=>none
def goN (C:Cfg) (F:Tk→Res) (md:Option (List (Nat×Nat)×(Nat→Nat))) (all:List Oper) (f k:Nat) (ks:List It) (i:Nat) (rest:List Oper) (fr:Fr) (h:Zd) (T:List Nat) (acc:List (Nat×List Nat)) (d:Option Nat):Option (AV×Zd)→Res
 | some (v,h')=>go C F md all f k ks (i+1) rest (put fr d v) h' (goA md i h h' T acc)
 | none=>none
def goG (C:Cfg) (F:Tk→Res) (md:Option (List (Nat×Nat)×(Nat→Nat))) (all:List Oper) (f k:Nat) (ks:List It) (i:Nat) (rest:List Oper) (fr:Fr) (h:Zd) (acc:List (Nat×List Nat)) (d:Option Nat) (op:Op) (want:Bool):AV→Res
 | .bool b=>if b=want then goN C F md all f k ks i rest fr h (goT md i fr h op) acc d (goS C F md i fr h op) else go C F md all f k ks (i+1) rest (put fr d (.tup [])) h acc
 | .tup []=>go C F md all f k ks (i+1) rest (put fr d (.tup [])) h acc
 | _=>none
section
variable {C:Cfg} {F:Tk→Res}
theorem ZcQ {all:List Oper} {f k:Nat} {ks:List It}:∀ (l:List Oper) (i:Nat) (fr:Fr) (h:Zd) (acc:List (Nat×List Nat)),go C F none all f k ks i l fr h acc=ZbF F f k ks (Qw C F all l fr h)
 | [],_,_,_,_=>rfl
 | o::l,i,fr,h,acc=>by
  have step:(match goS C F none i fr h o.op with
   | some (v,h')=>go C F none all f k ks (i+1) l (put fr o.dst v) h' (goA none i h h' (goT none i fr h o.op) acc)
   | none=>none)=ZbF F f k ks (match Z0 C F (ev fr) h o.op with
    | some (v,h)=>Qw C F all l (put fr o.dst v) h
    | none=>none):=by
   simp only [goS]
   cases Z0 C F (ev fr) h o.op with
   | none=>rfl
   | some p=>exact ZcQ l _ _ _ _
  cases hg:o.guard with
  | none=>simp only [go,Qw,hg];exact step
  | some jw =>
   obtain ⟨j,want⟩:=jw
   simp only [go,Qw,hg]
   cases hv:ZbL fr (XH all j) with
   | bool b =>
    simp only
    by_cases hb:b=want
    ·simp only [hb,if_true];exact step
    ·simp only [hb,if_false];exact ZcQ l _ _ _ _
   | tup l' =>
    cases l' with
    | nil=>exact ZcQ l _ _ _ _
    | cons _ _=>rfl
   | _=>rfl
theorem J8 (fr:Fr):∀ l,YA [] fr l=true
 | []=>rfl
 | (i,w)::r=>by simp only [YA,Ql,J8 fr r];rfl
def Zae (dy:List (Nat×Nat)) (acc:List (Nat×List Nat)):Option (Fr×Zd×List (Nat×List Nat))→Option (Fr×Zd)
 | some (fr,h,l)=>if YA dy fr l=true∧YA dy fr acc=true then some (fr,h) else none
 | none=>none
theorem Zew {dy:List (Nat×Nat)} {pl:Nat→Nat} {all:List Oper} {f k:Nat} {ks:List It}:∀ (l:List Oper) (i:Nat) (fr:Fr) (h:Zd) (acc:List (Nat×List Nat)),
  go C F (some (dy,pl)) all f k ks i l fr h acc=ZbF F f k ks (Zae dy acc (Xm C F dy pl all i l fr h))
 | [],i,fr,h,acc=>by
  simp only [go,goE,Xm,Zae,YA,true_and]
  split<;>rfl
 | o::l,i,fr,h,acc=>by
  have step:(match goS C F (some (dy,pl)) i fr h o.op with
   | some (v,h')=>go C F (some (dy,pl)) all f k ks (i+1) l (put fr o.dst v) h' (goA (some (dy,pl)) i h h' (goT (some (dy,pl)) i fr h o.op) acc)
   | none=>none)=ZbF F f k ks (Zae dy acc (match Xk C F dy pl i (ev fr) h o.op with
    | some (v,h')=>match Xm C F dy pl all (i+1) l (put fr o.dst v) h' with
     | some (fr',h'',l)=>some (fr',h'',(i,chg h h' (Z9 dy i (ev fr) h o.op))::l)
     | none=>none
    | none=>none)):=by
   simp only [goS]
   cases Xk C F dy pl i (ev fr) h o.op with
   | none=>rfl
   | some p =>
    obtain ⟨v,h'⟩:=p
    simp only
    rw [Zew l (i+1) _ h' _]
    cases hA:Xm C F dy pl all (i+1) l (put fr o.dst v) h' with
    | none=>rfl
    | some q =>
     obtain ⟨fr',h'',l'⟩:=q
     congr 1
     cases dy with
     | nil=>simp only [Zae,J8,and_self,if_true]
     | cons d dy =>
      simp only [Zae,goA,goT,YA,Bool.and_eq_true]
      congr 1
      simp only [eq_iff_iff]
      constructor
      ·rintro ⟨a,b,c⟩;exact ⟨⟨b,a⟩,c⟩
      ·rintro ⟨⟨b,a⟩,c⟩;exact ⟨a,b,c⟩
  cases hg:o.guard with
  | none=>simp only [go,Xm,hg];exact step
  | some jw =>
   obtain ⟨j,want⟩:=jw
   simp only [go,Xm,hg]
   cases hv:ZbL fr (XH all j) with
   | bool b =>
    simp only
    by_cases hb:b=want
    ·simp only [hb,if_true];exact step
    ·simp only [hb,if_false];exact Zew l _ _ _ _
   | tup l' =>
    cases l' with
    | nil=>exact Zew l _ _ _ _
    | cons _ _=>rfl
   | _=>rfl
theorem ZrA {dy:List (Nat×Nat)} (x:Option (Fr×Zd×List (Nat×List Nat))):Zae dy [] x=ZdP dy x:=by
 cases x with
 | none=>rfl
 | some p=>obtain ⟨fr,h,l⟩:=p;simp [Zae,ZdP,YA]
end
section
variable {C:Cfg} {f k id:Nat} {ks:List It} {fr:Fr} {h:Zd} {ops:List Oper}
@[go_sem] theorem ZLg:R C (.run f k (.code (.region id ops.toArray false)::ks) fr h)=go C (R C) none ops f k (Za3 id ks (C.post f)) 0 ops fr h []:=by
 rw [Zre,ZcQ]
@[go_sem] theorem ZGv:R C (.run f k (.code (.region id ops.toArray true)::ks) fr h)=go C (R C) (some (C.dyn f id,ZhN h.length ops)) ops f k (Za3 id ks (C.post f)) 0 ops fr (h++List.replicate (QP ops) .hole) []:=by
 rw [Zuw,Zew,ZrA]
end
section
variable {C:Cfg} {F:Tk→Res} {md:Option (List (Nat×Nat)×(Nat→Nat))} {all rest:List Oper} {f k i:Nat} {ks:List It} {fr:Fr} {h:Zd} {acc:List (Nat×List Nat)} {d:Option Tmp} {op:Op} {t:TypeId} {p:String} {ed:Array Edge}
@[go_sem] theorem ZFJ:go C F md all f k ks i [] fr h acc=goE F md f k ks fr h acc:=rfl
@[go_sem] theorem ZCK:go C F md all f k ks i (⟨d,op,t,p,ed,none⟩::rest) fr h acc=goN C F md all f k ks i rest fr h (goT md i fr h op) acc d (goS C F md i fr h op):=by
 simp only [go]
 generalize goS C F md i fr h op=v
 cases v<;>rfl
@[go_sem] theorem ZB6 {j:Nat} {want:Bool}:go C F md all f k ks i (⟨d,op,t,p,ed,some (j,want)⟩::rest) fr h acc=goG C F md all f k ks i rest fr h acc d op want (ZbL fr (XH all j)):=by
 simp only [go]
 generalize ZbL fr (XH all j)=v
 cases v with
 | bool b =>
  simp only [goG]
  generalize goS C F md i fr h op=s
  cases s<;>rfl
 | tup l=>cases l<;>rfl
 | _=>rfl
@[go_sem] theorem ZBK {h':Zd} {T:List Nat} {v:AV}:goN C F md all f k ks i rest fr h T acc d (some (v,h'))=go C F md all f k ks (i+1) rest (put fr d v) h' (goA md i h h' T acc):=rfl
@[go_sem] theorem ZGt:goG C F md all f k ks i rest fr h acc d op true (.bool true)=goN C F md all f k ks i rest fr h (goT md i fr h op) acc d (goS C F md i fr h op):=rfl
@[go_sem] theorem ZJR:goG C F md all f k ks i rest fr h acc d op true (.bool false)=go C F md all f k ks (i+1) rest (put fr d (.tup [])) h acc:=rfl
@[go_sem] theorem ZGd:goG C F md all f k ks i rest fr h acc d op false (.bool true)=go C F md all f k ks (i+1) rest (put fr d (.tup [])) h acc:=rfl
@[go_sem] theorem ZGM:goG C F md all f k ks i rest fr h acc d op false (.bool false)=goN C F md all f k ks i rest fr h (goT md i fr h op) acc d (goS C F md i fr h op):=rfl
theorem ZR {b:Bool} {r:Res} (h1:b=true→goN C F md all f k ks i rest fr h (goT md i fr h op) acc d (goS C F md i fr h op)=r) (h2:b=false→go C F md all f k ks (i+1) rest (put fr d (.tup [])) h acc=r):goG C F md all f k ks i rest fr h acc d op true (.bool b)=r:=by
 cases b
 ·exact h2 rfl
 ·exact h1 rfl
theorem ZY {b:Bool} {r:Res} (h1:b=true→go C F md all f k ks (i+1) rest (put fr d (.tup [])) h acc=r) (h2:b=false→goN C F md all f k ks i rest fr h (goT md i fr h op) acc d (goS C F md i fr h op)=r):goG C F md all f k ks i rest fr h acc d op false (.bool b)=r:=by
 cases b
 ·exact h2 rfl
 ·exact h1 rfl
theorem ZI {a b:Code} {t:Bool} {r:Res} (h1:t=true→F (.run f k (.code a::ks) fr h)=r) (h2:t=false→F (.run f k (.code b::ks) fr h)=r):ZaZ F f k ks a b fr h (.bool t)=r:=by
 cases t
 ·exact h2 rfl
 ·exact h1 rfl
@[go_sem] theorem ZCD {want:Bool}:goG C F md all f k ks i rest fr h acc d op want (.tup [])=go C F md all f k ks (i+1) rest (put fr d (.tup [])) h acc:=rfl
@[go_sem] theorem ZyL:goE F none f k ks fr h acc=F (.run f k ks fr h):=rfl
@[go_sem] theorem ZzJ {pl:Nat→Nat}:goE F (some ([],pl)) f k ks fr h acc=F (.run f k ks fr h):=by simp only [goE,J8,if_true]
@[go_sem] theorem ZF5 {a:Nat×Nat} {dy:List (Nat×Nat)} {pl:Nat→Nat}:goE F (some (a::dy,pl)) f k ks fr h acc=if YA (a::dy) fr acc=true then F (.run f k ks fr h) else none:=rfl
@[go_sem] theorem ZyR:goT none i fr h op=[]:=rfl
@[go_sem] theorem ZzO {pl:Nat→Nat}:goT (some ([],pl)) i fr h op=[]:=rfl
@[go_sem] theorem ZGq {a:Nat×Nat} {dy:List (Nat×Nat)} {pl:Nat→Nat}:goT (some (a::dy,pl)) i fr h op=Z9 (a::dy) i (ev fr) h op:=rfl
@[go_sem] theorem Zxh {h':Zd} {T:List Nat}:goA none i h h' T acc=[]:=rfl
@[go_sem] theorem Zzo {pl:Nat→Nat} {h':Zd} {T:List Nat}:goA (some ([],pl)) i h h' T acc=[]:=rfl
@[go_sem] theorem ZIL {a:Nat×Nat} {dy:List (Nat×Nat)} {pl:Nat→Nat} {h':Zd} {T:List Nat}:goA (some (a::dy,pl)) i h h' T acc=(i,chg h h' T)::acc:=rfl
@[go_sem] theorem ZxL:goS C F none i fr h op=Z0 C F (ev fr) h op:=rfl
@[go_sem] theorem ZAy {dy:List (Nat×Nat)} {pl:Nat→Nat}:goS C F (some (dy,pl)) i fr h op=Xk C F dy pl i (ev fr) h op:=rfl
end
noncomputable def RL (C:Cfg) (t:Tk):Res:=R C t
theorem Zc (C:Cfg) (t:Tk):RL C t=R C t:=rfl
noncomputable def ZiH (C:Cfg) (f k:Nat) (ks:List It) (id:Nat) (b:Code) (fr:Fr) (h:Zd):Option (List Nat×List (Nat×Option Nat×Nat×Bool)×List Nat)→Res
 | some (live,os,fz)=>ZbM (RL C) f k ks id b (live,fz) (frz k live fz (restr (WN fr h os).1 live) (WN fr h os).2)
 | none=>R C (.run f k (.code (.loop b)::.blk id h.length::ks) fr h)
section
variable {C:Cfg} {f k id n:Nat} {ks:List It} {fr:Fr} {h:Zd} {a b:Code}
@[go_sem] theorem ZxG:R C (.run f k (.code (.block id (.loop b))::ks) fr h)=ZiH C f k ks id b fr h (C.live f id):=by
 rw [ZlX]
 cases C.live f id with
 | none=>rfl
 | some p=>rfl
@[go_sem] theorem ZrF {live:List Nat} {os:List (Nat×Option Nat×Nat×Bool)} {fz:List Nat}:ZiH C f k ks id b fr h (some (live,os,fz))=ZbM (RL C) f k ks id b (live,fz) (frz k live fz (restr (WN fr h os).1 live) (WN fr h os).2):=rfl
@[go_sem] theorem ZIR {live:List Nat×List Nat}:R C (.run f k (.lp b (some live) n::ks) fr h)=JV (RL C) f k ks b live n fr h:=ZE8
theorem QW (hc:∀ x,a≠.loop x):R C (.run f k (.code (.block id a)::ks) fr h)=R C (.run f k (.code a::.blk id h.length::ks) fr h):=by
 rw [ZlX]
 unfold Zbw
 split
 ·split
  ·rename_i x;exact absurd rfl (hc x)
  ·rfl
 ·rfl
@[go_sem] theorem Zxs:R C (.run f k (.code (.block id (.seq a b))::ks) fr h)=R C (.run f k (.code (.seq a b)::.blk id h.length::ks) fr h):=QW (by simp)
@[go_sem] theorem Zwv {x:Operand}:R C (.run f k (.code (.block id (.cond x a b))::ks) fr h)=R C (.run f k (.code (.cond x a b)::.blk id h.length::ks) fr h):=QW (by simp)
@[go_sem] theorem Ztl {i:Nat} {ops:Array Oper} {d:Bool}:R C (.run f k (.code (.block id (.region i ops d))::ks) fr h)=R C (.run f k (.code (.region i ops d)::.blk id h.length::ks) fr h):=QW (by simp)
@[go_sem] theorem Zvh:R C (.run f k (.code (.block id .skip)::ks) fr h)=R C (.run f k (.code .skip::.blk id h.length::ks) fr h):=QW (by simp)
@[go_sem] theorem Zyo:R C (.run f k (.code (.block id .ret)::ks) fr h)=R C (.run f k (.code .ret::.blk id h.length::ks) fr h):=QW (by simp)
@[go_sem] theorem ZvM {i:Nat}:R C (.run f k (.code (.block id (.exit i))::ks) fr h)=R C (.run f k (.code (.exit i)::.blk id h.length::ks) fr h):=QW (by simp)
@[go_sem] theorem Zxb {i:Nat}:R C (.run f k (.code (.block id (.block i a))::ks) fr h)=R C (.run f k (.code (.block i a)::.blk id h.length::ks) fr h):=QW (by simp)
end
section
variable {P:Program} {ρ:Go.Shelf.Ren}
open Go.Shelf Go.RowKit in
set_option maxHeartbeats 2000000 in
set_option maxRecDepth 100000 in
theorem Any.Builder_String_exact (L:Lays.n169 P ρ) (X:Builder.Extra P ρ) (b g cap:Nat) (p:Value) (T:TypeId) (cur:Array Value) (fz:Nat×Nat) (l:List UInt8) (w:World) (h0:l≠[])
  (hbk:w.heap[b]? = some (.cells #[p,.slice (some ⟨g,0,none⟩) l.length cap] T (0,0))) (hg:w.heap[g]? = some (.cells cur (ρ.t 5) fz)) (hcap:l.length≤cap) (hcs:l.length≤cur.size) (h63:l.length≤9223372036854775807)
  (hcell:∀ (j:Nat) (x:UInt8),l[j]? = some x→cur[j]? = some (Value.int .u8 x.toNat)) :
  Calls P (ρ.f 169) #[.pointer (some ⟨b,0,none⟩)] w fun e w'=>e=.returned (.string ⟨l.toArray⟩)∧w'=w.drew.freeze ⟨g,0,none⟩ l.length:=by
 have hl0:l.length≠0:=by simpa using h0
 have c1:w.drew.cell? ⟨b,1,none⟩=some (.slice (some ⟨g,0,none⟩) l.length cap):=by
  have:w.drew.heap[b]? = some (.cells #[p,.slice (some ⟨g,0,none⟩) l.length cap] T (0,0)):=hbk
  rw [Lib.cell_of_heap this];rfl
 have hSD:(Builtin.unsafeSliceData_ #[(ρ.t 37)] (ρ.t 127) #[.slice (some ⟨g,0,none⟩) l.length cap]).run P w.drew=.ok (.pointer (some ⟨g,0,none⟩)) w.drew :=
  Lib.run_unsafeSliceData_row _ _ _ _ _ _ (by omega)
 have hUS:(Builtin.unsafeString_ #[(ρ.t 127),(ρ.t 3)] (ρ.t 9) #[.pointer (some ⟨g,0,none⟩),.int .i64 l.length]).run P w.drew=.ok (.string ⟨l.toArray⟩) (w.drew.freeze ⟨g,0,none⟩ l.length):=by
  refine Lib.run_unsafeString_row w.drew (ρ.t 127) (ρ.t 3) (ρ.t 9) (ρ.t 5) L.t127 X.cellsByte g cur.size (by have hg':w.drew.heap[g]? = some (.cells cur (ρ.t 5) fz):=hg;simp [World.shape?,hg']) l h0 hcs h63 ?_
  intro j x hx
  have hg':w.drew.heap[g]? = some (.cells cur (ρ.t 5) fz):=hg
  have hadd:(⟨g,0,none⟩:Addr).add j=⟨g,j,none⟩:=by unfold Addr.add;split<;>simp_all
  rw [hadd,Lib.cell_of_heap hg']
  exact hcell j x hx
 have mixed:=L.mixed
 have t72:=L.t72;have a72:=L.a72;have z72:=L.z72;have v72:=L.v72;have u72:=run_underlying L.t72
 have t70:=L.t70;have a70:=L.a70;have z70:=L.z70;have v70:=L.v70;have u70:=run_underlying L.t70
 have t37:=L.t37;have a37:=L.a37;have z37:=L.z37;have v37:=L.v37;have u37:=run_underlying L.t37
 have t127:=L.t127;have a127:=L.a127;have z127:=L.z127;have v127:=L.v127;have u127:=run_underlying L.t127
 have t3:=L.t3;have a3:=L.a3;have z3:=L.z3;have v3:=L.v3;have u3:=run_underlying L.t3
 have t9:=L.t9;have a9:=L.a9;have z9:=L.z9;have v9:=L.v9;have u9:=run_underlying L.t9
 have t5:=X.t5;have a5:=X.a5;have z5:=X.z5;have v5:=X.v5;have u5:=run_underlying X.t5
 go_enter L.f169,Body.n169_ntmps ρ
 go_wp2
 go_region_o
 all_goals (go_wp2;go_ret;exact ⟨rfl,rfl⟩)
open Go.Shelf Go.RowKit in
set_option maxHeartbeats 2000000 in
set_option maxRecDepth 100000 in
theorem Any.Builder_String_none (L:Lays.n169 P ρ) (X:Builder.Extra P ρ) (b:Nat) (p:Value) (w:World) (hbk:w.heap[b]? = some (.cells #[p,.slice none 0 0] (ρ.t 72) (0,0))) :
  Calls P (ρ.f 169) #[.pointer (some ⟨b,0,none⟩)] w fun e w'=>e=.returned (.string ⟨#[]⟩)∧w'=w.drew:=by
 have hUS:=Any.unsafeString_none L X
 have c1:w.drew.cell? ⟨b,1,none⟩=some (.slice none 0 0):=by
  have:w.drew.heap[b]? = some (.cells #[p,.slice none 0 0] (ρ.t 72) (0,0)):=hbk
  rw [Lib.cell_of_heap this];rfl
 have hSD:(Builtin.unsafeSliceData_ #[(ρ.t 37)] (ρ.t 127) #[.slice none 0 0]).run P w.drew=.ok (.pointer none) w.drew:=rfl
 have mixed:=L.mixed
 have t72:=L.t72;have a72:=L.a72;have z72:=L.z72;have v72:=L.v72;have u72:=run_underlying L.t72
 have t70:=L.t70;have a70:=L.a70;have z70:=L.z70;have v70:=L.v70;have u70:=run_underlying L.t70
 have t37:=L.t37;have a37:=L.a37;have z37:=L.z37;have v37:=L.v37;have u37:=run_underlying L.t37
 have t127:=L.t127;have a127:=L.a127;have z127:=L.z127;have v127:=L.v127;have u127:=run_underlying L.t127
 have t3:=L.t3;have a3:=L.a3;have z3:=L.z3;have v3:=L.v3;have u3:=run_underlying L.t3
 have t9:=L.t9;have a9:=L.a9;have z9:=L.z9;have v9:=L.v9;have u9:=run_underlying L.t9
 have t5:=X.t5;have a5:=X.a5;have z5:=X.z5;have v5:=X.v5;have u5:=run_underlying X.t5
 go_enter L.f169,Body.n169_ntmps ρ
 go_wp2
 go_region_o
 all_goals (go_wp2;go_ret;exact ⟨rfl,rfl⟩)
end
section
variable {Bs:World→Prop} {P:Program} {ρ:Go.Shelf.Ren}
theorem ZpA {g:FuncId} {args:List AV} {r:AV} {v:Value} (hr:∀ (M:Nat→Nat→Prop) (w:World),PRep M w r v)
  (hc:∀ (M:Nat→Nat→Prop) (w:World) (vs:List Value),Bs w→PRepL M w args vs→Calls P g vs.toArray w fun e w'=>e=.returned v∧RowKit.Below w.heap.size w w'):Yb Bs P g args [] r []:=by
 intro μ w vs hrel hargs
 refine (hc _ w vs (hrel.base w fun _ _=>rfl) (RepL.no_own _ _ hargs)).mono ?_
 rintro e w' ⟨rfl,hb⟩
 have ex:=ZdK (μ:=μ) hb
 exact ⟨v,μ,rfl,hrel.ext_same ex (fun l b hl=>by simp at hl),ex,Rep.pure _ _ (hr _ _)⟩
def Zb7:List (List AV)→Option (List UInt8)
 | []=>some []
 | [.int .u8 n]::r=>if 0≤n∧n < 256 then (match Zb7 r with
  | some l=>some (UInt8.ofNat n.toNat::l)
  | none=>none) else none
 | _=>none
theorem Zfl:∀ (rs:List (List AV)) (s:List UInt8),Zb7 rs=some s→rs=Zx s
 | [],s,e=>by simp only [Zb7,Option.some.injEq] at e;subst e;rfl
 | row::r,s,e=>by
  unfold Zb7 at e
  split at e
  ·simp at *
  ·rename_i n r' heq
   obtain ⟨rfl,rfl⟩:=List.cons.inj heq
   split at e
   ·rename_i hn
    split at e
    ·rename_i l hl
     simp only [Option.some.injEq] at e
     subst e
     rw [Zx,Zfl r l hl]
     have:((UInt8.ofNat n.toNat).toNat:Int)=n:=by
      rw [UInt8.toNat_ofNat']
      omega
     rw [this]
    ·simp at e
   ·simp at e
  ·simp at e
def ZbP (t:TypeId):List AV→Zd→Option (AV×Zd)
 | [.tptr t' 0 0],.cells [.nilp,x]::r=>if t'=t then some (.tup [],.cells [.ptr 0 0,x]::r) else none
 | [.tptr t' 0 0],.cells [.ptr 0 0,x]::r=>if t'=t then some (.tup [],.cells [.ptr 0 0,x]::r) else none
 | _,_=>none
def ZfG (t e:TypeId):List AV→Zd→Option (AV×Zd)
 | [.tptr t' 0 0],.cells [p,.town e' 1 n]::.rows 1 rs false::r=>if t'=t∧(e'=e∧(n=rs.length∧(0 < n∧n≤9223372036854775807))) then (match Zb7 rs with
  | some s=>some (.str s,.cells [p,.town e' 1 n]::.rows 1 rs false::r)
  | none=>none) else none
 | [.tptr t' 0 0],.cells [p,.nils]::r=>if t'=t then some (.str [],.cells [p,.nils]::r) else none
 | _,_=>none
theorem Zcb {μ:Mp Bs} {h:Zd} {w:World} {t:TypeId} {cs:List AV} {r:Zd} {vs:List Value} (hr:Rel μ (.cells cs::r) w) (ha:RepL μ (.cells cs::r) w [.tptr t 0 0] vs) :
  ∃ b us,vs=[.pointer (some ⟨b,0,none⟩)]∧μ 0=some b∧w.heap[b]? = some (.cells (List.toArray us) t (0,0))∧Zl cs=true∧RepL μ (.cells cs::r) w cs us:=by
 obtain ⟨v,vr,rfl,h1,h2⟩:=ha
 have h2:vr=[]:=h2
 subst h2
 obtain ⟨cs',b,hl,hm,rfl,vs',fz,hs⟩:=h1
 obtain ⟨b',us,T,h3,h4,h5,h6⟩:=hr.blk 0 _ (show (Blk.cells cs::r)[0]? = some (.cells cs) from rfl)
 have:b'=b:=by rw [hm] at h3;simpa using h3.symm
 subst this
 rw [h4] at hs
 simp only [Option.some.injEq,Obj.cells.injEq] at hs
 obtain ⟨_,rfl,_⟩:=hs
 exact ⟨b',us,rfl,hm,h4,h5,h6⟩
theorem Zbk {μ:Mp Bs} {h:Zd} {w:World} {p x:AV} {us:List Value} (r:RepL μ h w [p,x] us):∃ u v,us=[u,v]∧Rep μ h w p u∧Rep μ h w x v:=by
 obtain ⟨u,ur,rfl,h1,v,vr,rfl,h2,h3⟩:=r
 have h3:vr=[]:=h3
 subst h3
 exact ⟨u,v,rfl,h1,h2⟩
open Go.Shelf in
theorem Zc7 (L:Lays.n240 P ρ) (X:Builder.X72 P ρ) {args:List AV} {h h':Zd} {v:AV} (e:ZbP (ρ.t 72) args h=some (v,h')):Yb Bs P (ρ.f 240) args h v h':=by
 unfold ZbP at e
 split at e
 ·rename_i t' x r
  split at e
  ·rename_i ht
   subst ht
   simp only [Option.some.injEq,Prod.mk.injEq] at e
   obtain ⟨rfl,rfl⟩:=e
   intro μ w vs hr ha
   obtain ⟨b,us,rfl,hm,hb,hs,hu⟩:=Zcb (h:=[]) hr ha
   obtain ⟨u,v,rfl,h1,h2⟩:=Zbk hu
   have h1:u=.pointer none:=h1
   subst h1
   have c0:w.cell? ⟨b,0,none⟩=some (.pointer none):=by rw [Lib.cell_of_heap hb];rfl
   have hsh:w.shape? b=some ((ρ.t 72),2):=by simp [World.shape?,hb]
   have hfr:w.frozen? ⟨b,0,none⟩=false:=Lib.frozen_of_heap hb 0
   refine (Any.Builder_copyCheck_fresh L X b w c0 hsh hfr).mono ?_
   rintro e w' ⟨rfl,rfl⟩
   rw [setCell_eq_setRow w b 0 _ _ _ _ hb]
   have hk:(w.setRow b (#[Value.pointer none,v].setIfInBounds 0 (.pointer (some ⟨b,0,none⟩)))).heap[b]? = some (.cells #[.pointer (some ⟨b,0,none⟩),v] (ρ.t 72) (0,0)):=setRow_heap w b _ _ _ _ hb
   have ex:Ext μ (.cells [.nilp,x]::r) w μ ((Blk.cells [.nilp,x]::r).set 0 (.cells [.ptr 0 0,x])) (w.setRow b (#[Value.pointer none,v].setIfInBounds 0 (.pointer (some ⟨b,0,none⟩)))) :=
    Ext.update hr (l:=0) rfl hm hb hk (fun b2 hb2=>setRow_other w b b2 _ hb2) rfl rfl rfl (by simp) rfl (fun _ _ _ hno=>absurd trivial hno) (fun _ _=>trivial) trivial
   refine ⟨.tuple #[],μ,rfl,Rel.update hr (l:=0) rfl hm (fun b2 hb2=>setRow_other w b b2 _ hb2) ex ?_,ex,[],rfl,rfl⟩
   refine ⟨b,[.pointer (some ⟨b,0,none⟩),v],ρ.t 72,hm,hk,?_,.pointer (some ⟨b,0,none⟩),[v],rfl,?_,v,[],rfl,Rep.ext ex _ _ h2,rfl⟩
   ·simp only [Zl,Bool.and_true,Bool.and_eq_true] at hs ⊢
    exact ⟨rfl,hs.2⟩
   ·exact ⟨[.ptr 0 0,x],b,rfl,hm,rfl⟩
  ·simp at e
 ·rename_i t' x r
  split at e
  ·rename_i ht
   subst ht
   simp only [Option.some.injEq,Prod.mk.injEq] at e
   obtain ⟨rfl,rfl⟩:=e
   intro μ w vs hr ha
   obtain ⟨b,us,rfl,hm,hb,hs,hu⟩:=Zcb (h:=[]) hr ha
   obtain ⟨u,v,rfl,h1,h2⟩:=Zbk hu
   obtain ⟨cs',b',_,hm',rfl⟩:=h1
   have:b'=b:=by rw [hm] at hm';simpa using hm'.symm
   subst this
   have c0:w.cell? ⟨b',0,none⟩=some (.pointer (some ⟨b',0,none⟩)):=by rw [Lib.cell_of_heap hb];rfl
   refine (Any.Builder_copyCheck_used L X b' w c0).mono ?_
   rintro e w' ⟨rfl,rfl⟩
   exact ⟨.tuple #[],μ,rfl,hr,Ext.refl _ _ _,[],rfl,rfl⟩
  ·simp at e
 ·simp at e
theorem ZBL {μ:Mp Bs} {h:Zd} {w:World} {l g n:Nat} {rs:List (List AV)} (hr:Rel μ h w) (hl:h[l]? = some (.rows 1 rs false)) (hm:μ l=some g) (hn:n≤rs.length) :
  Rel μ h (w.freeze ⟨g,0,none⟩ n)∧Ext μ h w μ h (w.freeze ⟨g,0,none⟩ n):=by
 by_cases h0:n=0
 ·subst h0
  have:w.freeze ⟨g,0,none⟩ 0=w:=rfl
  rw [this]
  exact ⟨hr,Ext.refl _ _ _⟩
 rcases hr.blk l _ hl with ⟨_,h1⟩ | ⟨b,vs,T,h1,⟨fz,h2,h3⟩,h4,h5⟩
 ·rw [hm] at h1;simp at h1
 ·have:b=g:=by rw [hm] at h1;simpa using h1.symm
  subst this
  have hset:h.set l (.rows 1 rs false)=h:=Js hl
  have hother:∀ b2,b2≠b→(w.freeze ⟨b,0,none⟩ n).heap[b2]? = w.heap[b2]? := fun b2 hb2=>by
   unfold World.freeze
   rw [if_neg h0]
   simp only [Array.getElem?_modify]
   rw [if_neg (fun e=>hb2 e.symm)]
  obtain ⟨fz',hb',hfz'⟩:∃ fz':Nat×Nat,(w.freeze ⟨b,0,none⟩ n).heap[b]? = some (.cells vs T fz')∧fz'.2≤rs.length*1:=by
   obtain ⟨lo,hi⟩:=fz
   refine ⟨if lo==hi then (0,0+n) else (min lo 0,max hi (0+n)),?_,?_⟩
   ·unfold World.freeze
    rw [if_neg h0]
    simp only [Array.getElem?_modify,if_true,h2,Option.map_some]
   ·have:hi≤rs.length*1:=by
     rcases h3 with h3 | h3
     ·simp only [Prod.mk.injEq] at h3;omega
     ·exact h3.2
    split
    ·simp;omega
    ·simp only [Nat.zero_add,Nat.mul_one] at this ⊢;omega
  have ex:Ext μ h w μ (h.set l (.rows 1 rs false)) (w.freeze ⟨b,0,none⟩ n) :=
   Ext.update hr hl hm h2 hb' hother (by unfold World.freeze;split<;>rfl) (by unfold World.freeze;split<;>rfl) (by unfold World.freeze;split<;>rfl) (by unfold World.freeze;split<;>simp) rfl (fun _ _ hv _=>hv) (fun _ ho=>ho) ⟨rfl,Nat.le_refl _⟩
  have re:=Rel.update hr hl hm hother ex (.inr ⟨b,vs,T,hm,⟨fz',hb',.inr ⟨rfl,hfz'⟩⟩,h4,h5.ext ex⟩)
  rw [hset] at ex re
  exact ⟨re,ex⟩
open Go.Shelf in
theorem ZfB (L:Lays.n169 P ρ) (X:Builder.Extra P ρ) {args:List AV} {h h':Zd} {v:AV} (e:ZfG (ρ.t 72) (ρ.t 5) args h=some (v,h')):Yb Bs P (ρ.f 169) args h v h':=by
 unfold ZfG at e
 split at e
 ·rename_i t' p e' n rs r
  split at e
  ·rename_i hc
   obtain ⟨rfl,rfl,hn,hn0,hn63⟩:=hc
   split at e
   ·rename_i s hs
    simp only [Option.some.injEq,Prod.mk.injEq] at e
    obtain ⟨rfl,rfl⟩:=e
    have hrs:=Zfl rs s hs
    subst hrs
    rw [Yw] at hn
    subst hn
    intro μ w vs hr ha
    obtain ⟨b,us,rfl,hm,hb,_,hu⟩:=Zcb (h:=[]) hr ha
    obtain ⟨u,v,rfl,h1,h2⟩:=Zbk hu
    have hl1:(Blk.cells [p,.town (ρ.t 5) 1 s.length]::Blk.rows 1 (Zx s) false::r)[1]? = some (.rows 1 (Zx s) false):=rfl
    obtain ⟨z2,rs2,wr2,base,cap,hl2,_,rfl,hv⟩:=h2
    rw [hl1] at hl2
    simp only [Option.some.injEq,Blk.rows.injEq] at hl2
    obtain ⟨rfl,rfl,rfl⟩:=hl2
    obtain ⟨h3,_,h4⟩:=hv (by rw [Yw])
    rcases h4 with ⟨_,hc0⟩ | ⟨g,cur,rfl,hm1,⟨fz,hg⟩,hcz⟩
    ·omega
    ·rcases hr.blk 1 _ hl1 with ⟨_,h5⟩ | ⟨g',cur',T',h5,⟨fz',h6,_⟩,h7,h8⟩
     ·rw [hm1] at h5;simp at h5
     ·have:g'=g:=by rw [hm1] at h5;simpa using h5.symm
      subst this
      rw [hg] at h6
      simp only [Option.some.injEq,Obj.cells.injEq] at h6
      obtain ⟨rfl,rfl,rfl⟩:=h6
      rw [Yw] at h7
      refine (Any.Builder_String_exact L X b g' cap u _ cur fz s w (fun e=>by subst e;simp at hn0) hb hg h3 (by omega) hn63 fun j x hx=>?_).mono ?_
      ·have hrow:(Zx s)[j]? = some [.int .u8 (x.toNat:Int)]:=by rw [J5,hx];rfl
       obtain ⟨_,_,h9⟩:=h8 j _ hrow
       obtain ⟨u',h10,h11⟩:=h9 0 _ rfl
       have h11:u'=.int .u8 (x.toNat:Int):=h11
       subst h11
       simpa using h10
      ·rintro e w' ⟨rfl,rfl⟩
       have hrd:Rel μ (.cells [p,.town (ρ.t 5) 1 s.length]::.rows 1 (Zx s) false::r) w.drew:=JI hr
       have hed:Ext μ (.cells [p,.town (ρ.t 5) 1 s.length]::.rows 1 (Zx s) false::r) w μ (.cells [p,.town (ρ.t 5) 1 s.length]::.rows 1 (Zx s) false::r) w.drew:=drew_ext
       obtain ⟨q1,q2⟩:=ZBL (n:=s.length) hrd hl1 hm1 (by rw [Yw];exact Nat.le_refl _)
       exact ⟨_,μ,rfl,q1,hed.trans q2,rfl⟩
   ·simp at e
  ·simp at e
 ·rename_i t' p r
  split at e
  ·rename_i ht
   subst ht
   simp only [Option.some.injEq,Prod.mk.injEq] at e
   obtain ⟨rfl,rfl⟩:=e
   intro μ w vs hr ha
   obtain ⟨b,us,rfl,hm,hb,_,hu⟩:=Zcb (h:=[]) hr ha
   obtain ⟨u,v,rfl,h1,h2⟩:=Zbk hu
   have h2:v=.slice none 0 0:=h2
   subst h2
   refine (Any.Builder_String_none L X b u w hb).mono ?_
   rintro e w' ⟨rfl,rfl⟩
   exact ⟨_,μ,rfl,JI hr,drew_ext,rfl⟩
  ·simp at e
 ·simp at e
end
end Go.Ab
