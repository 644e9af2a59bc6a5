/- What is proved: contracts of the program's and the reference's functions in the evaluator, and plain laws on them. Conditions: as each states. -/
import Derived.Test.YtdhobhodbficjaaGreatDoorMX3
set_option linter.unusedSimpArgs false
set_option linter.unusedSectionVars false
set_option linter.unusedVariables false
set_option maxRecDepth 100000
namespace Go.Ab
open Go Go.Proofs
section
variable {Bs:World→Prop}
variable {C:Cfg} {F:Tk→Res} {μ μ0:Mp Bs} {h h0 h':Heap} {w w0:World}
theorem owned_sound {t:Array Value}:∀ (os:List (Nat×Option Nat×Nat×Bool)) (fr fr':Fr) (h h':Heap) (μ:Mp Bs),Rel μ h w→FrRel μ h w fr t→owned fr h os=(fr',h')→∃ μ',Rel μ' h' w∧Ext μ h w μ' h' w∧FrRel μ' h' w fr' t
 | [],fr,fr',h,h',μ,hr,hf,e=>by
  simp only [owned,Prod.mk.injEq] at e
  obtain ⟨rfl,rfl⟩:=e
  exact ⟨μ,hr,Ext.refl _ _ _,hf⟩
 | (i,some d,z,q)::os,fr,fr',h,h',μ,hr,hf,e=>by
  have rest:owned fr h os=(fr',h')→∃ μ',Rel μ' h' w∧Ext μ h w μ' h' w∧FrRel μ' h' w fr' t:=owned_sound os _ _ _ _ _ hr hf
  simp only [owned] at e
  split at e
  ·split at e
   ·rename_i l o hx _ cs hl
    split at e
    ·rename_i hn
     have hp:=Ext.push hr (.rows z [] q) none
     have hr1:Rel (μ.set h.length none) (h++[Blk.rows z [] q]) w:=Rel.push hr (.rows z [] q) none (.inl ⟨Blank.nil,set_same _ _⟩)
     have hlt:=(List.getElem?_eq_some_iff.1 hl).1
     have hl1:(h++[Blk.rows z [] q])[l]? = some (.cells cs):=by rw [List.getElem?_append_left hlt];exact hl
     obtain ⟨b,vs,T,h1,h2,h3,h4⟩:=hr1.blk l _ hl1
     have hu:Ext (μ.set h.length none) (h++[Blk.rows z [] q]) w (μ.set h.length none) ((h++[Blk.rows z [] q]).set l (.cells (cs.set (o+d) (.own h.length 0)))) w :=
      Ext.update hr1 hl1 h1 h2 h2 (fun _ _=>rfl) rfl rfl rfl (Nat.le_refl _) rfl (fun _ _ hv _=>hv) (fun _ _=>trivial) trivial
     have hlen:h.length≠l:=by omega
     have hr2:Rel (μ.set h.length none) ((h++[Blk.rows z [] q]).set l (.cells (cs.set (o+d) (.own h.length 0)))) w:=by
      refine Rel.update hr1 hl1 h1 (fun _ _=>rfl) hu ⟨b,vs,T,h1,h2,singles_set rfl _ _ h3,RepL.set cs vs (o+d) (RepL.ext hu _ _ h4) fun v hv=>?_⟩
      have h5:=(RepL.at cs vs h4).2 (o+d) .nils hn
      obtain ⟨v',h6,h7⟩:=h5
      have:v'=v:=by
       have h6':vs[o+d]? = some v':=h6
       rw [h6'] at hv
       simpa using hv
      subst this
      have hv':v'=.slice none 0 0:=h7
      exact ⟨z,[],q,none,0,by rw [List.getElem?_set_ne (fun e=>hlen e.symm)];simp,Nat.le_refl _,hv',fun _=>⟨Nat.le_refl _,fun _=>rfl,.inl rfl⟩⟩
     obtain ⟨μ',q1,q2,q3⟩:=owned_sound os _ _ _ _ _ hr2 (FrRel.ext (hp.trans hu) hf) e
     exact ⟨μ',q1,(hp.trans hu).trans q2,q3⟩
    ·exact rest e
   ·exact rest e
  ·exact rest e
 | (i,none,z,q)::os,fr,fr',h,h',μ,hr,hf,e=>by
  simp only [owned] at e
  split at e
  ·rename_i hx
   have hp:=Ext.push hr (.rows z [] q) none
   have hr':Rel (μ.set h.length none) (h++[.rows z [] q]) w:=Rel.push hr (.rows z [] q) none (.inl ⟨Blank.nil,set_same _ _⟩)
   have hv:=hf i
   rw [hx] at hv
   have hv':t.getD i undef=.slice none 0 0:=hv
   have hf':FrRel (μ.set h.length none) (h++[.rows z [] q]) w ((i,.own h.length 0)::fr) t:=fun j=>by
    simp only [get]
    split
    ·rename_i hij
     subst hij
     exact ⟨z,[],q,none,0,by simp,Nat.le_refl _,hv',fun _=>⟨Nat.le_refl _,fun _=>rfl,.inl rfl⟩⟩
    ·exact Rep.ext hp _ _ (hf j)
   obtain ⟨μ',h1,h2,h3⟩:=owned_sound os _ _ _ _ _ hr' hf' e
   exact ⟨μ',h1,hp.trans h2,h3⟩
  ·exact owned_sound os _ _ _ _ _ hr hf e
theorem ownedB_sound {t:Array Value} {fr:Fr}:∀ (os:List (Nat×Nat×TypeId)) (h:Heap) (μ:Mp Bs),Rel μ h w→FrRel μ h w fr t→∃ μ',Rel μ' (ownedB fr h os) w∧Ext μ h w μ' (ownedB fr h os) w∧FrRel μ' (ownedB fr h os) w fr t
 | [],h,μ,hr,hf=>⟨μ,hr,Ext.refl _ _ _,hf⟩
 | (i,d,ty)::os,h,μ,hr,hf=>by
  have rest:∃ μ',Rel μ' (ownedB fr h os) w∧Ext μ h w μ' (ownedB fr h os) w∧FrRel μ' (ownedB fr h os) w fr t:=ownedB_sound os h μ hr hf
  simp only [ownedB]
  split
  ·rename_i ty' l o hx
   split
   ·rename_i cs hl
    split
    ·rename_i hn
     have hp:=Ext.push hr (.rows 1 [] false) none
     have hr1:Rel (μ.set h.length none) (h++[Blk.rows 1 [] false]) w:=Rel.push hr (.rows 1 [] false) none (.inl ⟨Blank.nil,set_same _ _⟩)
     have hlt:=(List.getElem?_eq_some_iff.1 hl).1
     have hl1:(h++[Blk.rows 1 [] false])[l]? = some (.cells cs):=by rw [List.getElem?_append_left hlt];exact hl
     obtain ⟨b,vs,T,h1,h2,h3,h4⟩:=hr1.blk l _ hl1
     have hu:Ext (μ.set h.length none) (h++[Blk.rows 1 [] false]) w (μ.set h.length none) ((h++[Blk.rows 1 [] false]).set l (.cells (cs.set (o+d) (.town ty h.length 0)))) w :=
      Ext.update hr1 hl1 h1 h2 h2 (fun _ _=>rfl) rfl rfl rfl (Nat.le_refl _) rfl (fun _ _ hv _=>hv) (fun _ _=>trivial) trivial
     have hlen:h.length≠l:=by omega
     have hr2:Rel (μ.set h.length none) ((h++[Blk.rows 1 [] false]).set l (.cells (cs.set (o+d) (.town ty h.length 0)))) w:=by
      refine Rel.update hr1 hl1 h1 (fun _ _=>rfl) hu ⟨b,vs,T,h1,h2,singles_set rfl _ _ h3,RepL.set cs vs (o+d) (RepL.ext hu _ _ h4) fun v hv=>?_⟩
      have h5:=(RepL.at cs vs h4).2 (o+d) .nils hn
      obtain ⟨v',h6,h7⟩:=h5
      have:v'=v:=by
       have h6':vs[o+d]? = some v':=h6
       rw [h6'] at hv
       simpa using hv
      subst this
      have hv':v'=.slice none 0 0:=h7
      exact ⟨1,[],false,none,0,by rw [List.getElem?_set_ne (fun e=>hlen e.symm)];simp,Nat.le_refl _,hv',fun _=>⟨Nat.le_refl _,fun _=>rfl,.inl ⟨rfl,rfl⟩⟩⟩
     obtain ⟨μ',q1,q2,q3⟩:=ownedB_sound os _ _ hr2 (FrRel.ext (hp.trans hu) hf)
     exact ⟨μ',q1,(hp.trans hu).trans q2,q3⟩
    ·exact rest
   ·exact rest
  ·exact rest
theorem OpsFit.mono {n m:Nat} {ops:Array Oper} (h:OpsFit n ops) (hn:n≤m):OpsFit m ops:=fun i o ho d hd=>Nat.lt_of_lt_of_le (h i o ho d hd) hn
theorem region_sound (hC:CfgOk Bs C) (hF:Knows Bs C.P F) {f id n:Nat} {ops:Array Oper} {draw:Bool} {fr fr':Fr} {a:Act} (hok:CodeOk C f n (.region id ops draw)) (hn:n≤a.tmps.size) (hr:Rel μ h w) (hf:FrRel μ h w fr a.tmps)
  (e:regionV C F f id ops.toList draw fr h=some (fr',h')):(Code.region id ops draw).wp C.P (fun x a' w'=>x=.normal∧∃ μ',Rel μ' h' w'∧Ext μ h w μ' h' w'∧FrRel μ' h' w' fr' a'.tmps∧a'.tmps.size=a.tmps.size∧a'.defers=a.defers) a w:=by
 obtain ⟨hfit,hdraw⟩:=hok
 have hE:Ends μ h w a fr' h' (fun x a' w'=>x=.normal∧∃ μ',Rel μ' h' w'∧Ext μ h w μ' h' w'∧FrRel μ' h' w' fr' a'.tmps∧a'.tmps.size=a.tmps.size∧a'.defers=a.defers) :=
  fun a' μ' w' q1 q2 q3 q4 q5=>⟨rfl,μ',q1,q2,q3,q4,q5⟩
 cases draw with
 | false =>
  simp only [regionV] at e
  refine wp_region ?_
  have:=aOps_sound hF ops.toList 0 fr fr' h h' a μ w (by simp) (hfit.mono hn) hr hf e hE
  simpa [List.range_eq_range'] using this
 | true =>
  simp only [regionV] at e
  obtain ⟨B,hO⟩:=hdraw rfl
  exact draw_sound hF hO hC.mixed (hfit.mono hn) hr hf e hE
end
section
variable {Bs:World→Prop}
variable {C:Cfg} {F:Tk→Res}
theorem ItsOk.cons {f n:Nat} {x:It} {ks:List It} (h:ItOk C f n x) (hs:ItsOk C f n ks):ItsOk C f n (x::ks):=fun y hy=>by
 rcases List.mem_cons.1 hy with rfl | hy
 ·exact h
 ·exact hs y hy
theorem ItsOk.tail {f n:Nat} {x:It} {ks:List It} (h:ItsOk C f n (x::ks)):ItsOk C f n ks:=fun y hy=>h y (List.mem_cons_of_mem _ hy)
theorem ItsOk.head {f n:Nat} {x:It} {ks:List It} (h:ItsOk C f n (x::ks)):ItOk C f n x:=h x (by simp)
theorem entry_get:∀ (args:List AV) (vs:List Value) (n i:Nat) {μ:Mp Bs} {h:Heap} {w:World},RepL μ h w args vs→Rep μ h w (get (entry n args) (n+i)) (vs.getD i undef)
 | [],vs,n,i,_,_,_,r=>by
  have:vs=[]:=r
  subst this
  simp [entry,get,Rep,PRep]
 | a::r,vs,n,i,μ,h,w,x=>by
  obtain ⟨v,vr,rfl,h1,h2⟩:=x
  simp only [entry,get]
  cases i with
  | zero=>simpa using h1
  | succ i =>
   have:¬n=n+(i+1):=by omega
   rw [if_neg this]
   have:=entry_get r vr (n+1) i h2
   rw [show n+(i+1)=n+1+i by omega]
   simpa using this
theorem entry_any:∀ (args:List AV) (n i:Nat),n+args.length≤i→get (entry n args) i=.any
 | [],_,_,_=>rfl
 | a::r,n,i,hi=>by
  simp only [List.length_cons] at hi
  simp only [entry,get]
  rw [if_neg (by omega)]
  exact entry_any r (n+1) i (by omega)
theorem RepL.length {μ:Mp Bs} {h:Heap} {w:World}:∀ {l:List AV} {vs:List Value},RepL μ h w l vs→l.length=vs.length
 | [],vs,r=>by
  have:vs=[]:=r
  subst this;rfl
 | a::r,vs,x=>by
  obtain ⟨v,vr,rfl,_,h2⟩:=x
  simp [RepL.length h2]
theorem entry_rel {args:List AV} {vs:List Value} {μ:Mp Bs} {h:Heap} {w:World} (m:Nat) (r:RepL μ h w args vs):FrRel μ h w (entry 0 args) (vs.toArray++Array.replicate (m - vs.toArray.size) undef):=fun i=>by
 rcases Nat.lt_or_ge i args.length with hi | hi
 ·have:=entry_get args vs 0 i r
  rw [Nat.zero_add] at this
  have hlen:=r.length
  rw [Array.getD_eq_getD_getElem?,Array.getElem?_append_left (by simp;omega)]
  simpa [List.getD_eq_getElem?_getD] using this
 ·rw [entry_any args 0 i (by omega)]
  exact trivial
theorem enter_called {f:Nat} {args:List AV} {h h':Heap} {r:AV} (hC:CfgOk Bs C) (hR:Runs Bs C F) (hg:C.good f=true) {os:List (Nat×Nat×TypeId)} (e:enter F f args h os C.P.funcs[f]? = some (r,h')):Go.Proofs.Enters C.P f∧Called Bs C.P f args h r h':=by
 obtain ⟨fn,c,hfn,hb,hname,hok⟩:=hC.good f hg
 refine ⟨Go.Proofs.enters_of hfn hname hb,fun μ w vs hr ha cs=>?_⟩
 unfold enter at e
 simp only [hfn,hb] at e
 let b:Frame:={ (default:Frame) with fn:=f,kind:=.normal }
 have henter:Frame.enter C.P f vs.toArray .normal=b.at { tmps:=vs.toArray++Array.replicate (fn.ntmps - vs.toArray.size) undef,defers:=[] } [.code c]:=by
  simp [Frame.enter,Frame.at,hfn,hb,b]
 obtain ⟨μ1,q1,q2,q3⟩:=ownedB_sound os h μ hr (entry_rel (fn.ntmps) ha)
 obtain ⟨a',todo,w',v,μ',h1,h2,h3,h4,h5,h6⟩:=hR f _ [.code c] _ _ r h' e fn hfn (ItsOk.cons hok (fun _ hx=>by simp at hx)) b cs
  { tmps:=vs.toArray++Array.replicate (fn.ntmps - vs.toArray.size) undef,defers:=[] } μ1 w μ1 _ w rfl q1 (Ext.refl _ _ _) q3 (by simp;omega) rfl
 refine ⟨.returned v,w',{ b.at a' todo with mode:=.returning },⟨v,μ',rfl,h4,q2.trans h5,h6⟩,?_,rfl,rfl,h2,rfl,fn,hfn,h3⟩
 rw [henter]
 exact h1
end
section
variable {Bs:World→Prop}
variable {C:Cfg} {F:Tk→Res}
variable {μ μ0:Mp Bs} {h h0:Heap} {w w0:World}
theorem locsH_mem:∀ {h:Heap} {x:Nat},x∈locsH h→∃ (i:Nat) (k:Blk),h[i]? = some k∧x∈locsB k
 | [],x,hx=>by simp [locsH] at hx
 | b::r,x,hx=>by
  simp only [locsH,List.mem_append] at hx
  rcases hx with hx | hx
  ·exact ⟨0,b,rfl,hx⟩
  ·obtain ⟨i,k,h1,h2⟩:=locsH_mem hx
   exact ⟨i+1,k,by simpa using h1,h2⟩
theorem sealed {l z n:Nat} {rs:List (List AV)} {wr:Bool} {v:Value} (hr:Rel μ h w) (hl:h[l]? = some (.rows z rs wr)) (hn:rs.length=n) (hz:locsR rs=[]) (hv:OwnRep μ h w l n v) :
  ∃ wr',Rel μ (h.set l (.rows z rs wr')) w∧Ext μ h w μ (h.set l (.rows z rs wr')) w∧PRep (Mut μ (h.set l (.rows z rs wr'))) w (.rows rs) v:=by
 have hlt:l < h.length:=(List.getElem?_eq_some_iff.1 hl).1
 by_cases h0:rs=[]
 ·refine ⟨wr,?_⟩
  have hs:h.set l (.rows z rs wr)=h:=by
   apply List.ext_getElem?
   intro i
   by_cases hi:l=i
   ·subst hi;rw [List.getElem?_set_self hlt,hl]
   ·rw [List.getElem?_set_ne hi]
  rw [hs]
  refine ⟨hr,Ext.refl _ _ _,?_⟩
  obtain ⟨z',rs',wr',base,cap,hl',_,rfl,hv⟩:=hv
  subst h0
  have:n=0:=by simpa using hn.symm
  subst this
  exact ⟨base,cap,rfl,Nat.zero_le _,.inl rfl⟩
 ·refine ⟨false,?_⟩
  rcases hr.blk l _ hl with ⟨_,h1⟩ | ⟨b,vs,T,h1,⟨fz,h2,hf⟩,h3,h4⟩
  ·exfalso
   obtain ⟨z',rs',wr',base,cap,hl',_,rfl,hv⟩:=hv
   rw [hl] at hl'
   simp only [Option.some.injEq,Blk.rows.injEq] at hl'
   obtain ⟨rfl,rfl,rfl⟩:=hl'
   obtain ⟨q1,_,q2⟩:=hv hn.symm
   rcases q2 with q2 | ⟨b,vs,T,_,hm,_⟩
   ·exact h0 (List.length_eq_zero_iff.1 (by omega))
   ·rw [hm] at h1;simp at h1
  ·have hu:Ext μ h w μ (h.set l (.rows z rs false)) w:=Ext.update hr hl h1 h2 h2 (fun _ _=>rfl) rfl rfl rfl (Nat.le_refl _) rfl (fun _ _ hv _=>hv) (fun o ho=>by
    rcases ho with ho | ho
    ·simp at ho
    ·exact .inr ho) ⟨rfl,Nat.le_refl _⟩
   have hr1:Rel μ (h.set l (.rows z rs false)) w:=Rel.update hr hl h1 (fun _ _=>rfl) hu (.inr ⟨b,vs,T,h1,⟨fz,h2,by
    rcases hf with hf | hf
    ·exact .inl hf
    ·exact .inr ⟨rfl,hf.2⟩⟩,h3,h4.ext hu⟩)
   refine ⟨hr1,hu,?_⟩
   have hv1:OwnRep μ (h.set l (.rows z rs false)) w l n v:=Rep.ext hu (.own l n) v hv
   obtain ⟨base,cap,h5,h6,h7⟩:=own_frozen hr1 (List.getElem?_set_self hlt) hn hz hv1
   refine ⟨base,cap,h5,h6,h7.imp id ?_⟩
   rintro ⟨b,h8,h9⟩
   exact ⟨b,0,z,h8,h9⟩
theorem seal_hole {t:Array Value} {k l l0 z:Nat} {fr:Fr} {rs:List (List AV)} {wr:Bool} {K:Blk} (hk:h0.length=k) (hlt:l < h.length) (hne:l≠l0) (c2:k≤l) (cz:l∉locsR rs) (c3:(locsF fr).contains l=false) (c4:(locsH (h.set l0 K)).contains l=false)
  (r2:Rel μ ((h.set l (.rows z rs wr)).set l0 K) w) (ex:Ext μ0 h0 w0 μ ((h.set l (.rows z rs wr)).set l0 K) w) (hf:FrRel μ ((h.set l (.rows z rs wr)).set l0 K) w fr t) :
  ∃ μ',Rel μ' ((h.set l .hole).set l0 K) w∧Ext μ0 h0 w0 μ' ((h.set l .hole).set l0 K) w∧FrRel μ' ((h.set l .hole).set l0 K) w fr t:=by
 have hno:l∉locsH ((h.set l (.rows z rs wr)).set l0 K):=fun hm=>by
  obtain ⟨j,k',hj,hm⟩:=locsH_mem hm
  by_cases hjl:l=j
  ·subst hjl
   rw [List.getElem?_set_ne (Ne.symm hne),List.getElem?_set_self hlt] at hj
   simp only [Option.some.injEq] at hj
   subst hj
   exact cz hm
  ·rw [List.set_comm _ _ hne,List.getElem?_set_ne hjl] at hj
   exact absurd (locsH_at hj _ hm) (by simpa using c4)
 have hlt2:l < ((h.set l (.rows z rs wr)).set l0 K).length:=by simpa using hlt
 have heq:((h.set l (.rows z rs wr)).set l0 K).set l .hole=(h.set l .hole).set l0 K:=by
  rw [List.set_comm _ _ (Ne.symm hne),List.set_set]
 have c3':l∉locsF fr:=by simpa using c3
 have r3:=r2.toHole hlt2 hno
 have ex3:=ex.toHole hlt2 (by omega)
 have hf3:FrRel (μ.set l none) (((h.set l (.rows z rs wr)).set l0 K).set l .hole) w fr t:=fun j=>hole_rep hlt2 (fun hx=>c3' (FrRel.cut.get_locs _ _ _ hx)) (hf j)
 rw [heq] at r3 ex3 hf3
 exact ⟨_,r3,ex3,hf3⟩
theorem frzC_sound {t:Array Value} {k:Nat} {fr:Fr} (hk:h0.length=k) (i d:Nat) (hr:Rel μ h w) (ex:Ext μ0 h0 w0 μ h w) (hf:FrRel μ h w fr t):∃ μ',Rel μ' (frzC k fr i d h) w∧Ext μ0 h0 w0 μ' (frzC k fr i d h) w∧FrRel μ' (frzC k fr i d h) w fr t:=by
 have rest:∃ μ',Rel μ' h w∧Ext μ0 h0 w0 μ' h w∧FrRel μ' h w fr t:=⟨μ,hr,ex,hf⟩
 unfold frzC
 split
 ·rename_i l0 o hx
  split
  ·rename_i cs hl0
   split
   ·rename_i l n hc
    split
    ·rename_i z rs wr hl
     split
     ·rename_i hcc
      obtain ⟨c1,c2,cz,c3,c4⟩:=hcc
      have hlt:l < h.length:=(List.getElem?_eq_some_iff.1 hl).1
      have hne:l≠l0:=fun e=>by subst e;rw [hl] at hl0;simp at hl0
      obtain ⟨b,vs,T,h1,h2,h3,h4⟩:=hr.blk l0 _ hl0
      obtain ⟨v,hv1,hv2⟩:=(RepL.at cs vs h4).2 (o+d) _ hc
      obtain ⟨wr',r1,e1,p1⟩:=sealed hr hl c1 cz hv2
      have hl0':(h.set l (.rows z rs wr'))[l0]? = some (.cells cs):=by rw [List.getElem?_set_ne hne];exact hl0
      have hu:Ext μ (h.set l (.rows z rs wr')) w μ ((h.set l (.rows z rs wr')).set l0 (.cells (cs.set (o+d) (.rows rs)))) w :=
       Ext.update r1 hl0' h1 h2 h2 (fun _ _=>rfl) rfl rfl rfl (Nat.le_refl _) rfl (fun _ _ hv _=>hv) (fun _ _=>trivial) trivial
      have r2:Rel μ ((h.set l (.rows z rs wr')).set l0 (.cells (cs.set (o+d) (.rows rs)))) w:=by
       refine Rel.update r1 hl0' h1 (fun _ _=>rfl) hu ⟨b,vs,T,h1,h2,singles_set rfl _ _ h3,RepL.set cs vs (o+d) (RepL.ext hu _ _ (RepL.ext e1 _ _ h4)) fun u hu'=>?_⟩
       have:u=v:=by
        have hv1':vs[o+d]? = some v:=hv1
        rw [hv1'] at hu'
        simpa using hu'.symm
       subst this
       exact Rep.ext hu (.rows rs) _ (Rep.pure _ _ p1)
      have hcz:l∉locsR rs:=by rw [cz];simp
      exact seal_hole hk hlt hne c2 hcz c3 c4 r2 ((ex.trans e1).trans hu) (FrRel.ext hu (FrRel.ext e1 hf))
     ·exact rest
    ·exact rest
   ·exact rest
  ·exact rest
 ·exact rest
theorem SomeRow.same {b:Nat} {vs vs':Array Value} {T T':TypeId} (a:SomeRow w b vs T) (a':SomeRow w b vs' T'):vs=vs':=by
 obtain ⟨f,a⟩:=a
 obtain ⟨f',a'⟩:=a'
 rw [a] at a'
 simp only [Option.some.injEq,Obj.cells.injEq] at a'
 exact a'.1
theorem RowsN.cell {z:Nat} {rs:List (List AV)} {vs:Array Value} {i c:Nat} {row:List AV} {a':AV} (r:RowsN μ h w z rs vs) (hi:rs[i]? = some row) (hs:single a'=true) (ha:∀ v,vs[i*z+c]? = some v→Rep μ h w a' v):RowsN μ h w z (rs.set i (row.set c a')) vs:=fun j row' hj=>by
 by_cases hij:i=j
 ·subst hij
  rw [List.getElem?_set_self (List.getElem?_eq_some_iff.1 hi).1] at hj
  obtain rfl:=Option.some.inj hj
  obtain ⟨h1,h2,h3⟩:=r i row hi
  refine ⟨by simpa using h1,singles_set hs _ _ h2,fun d b hd=>?_⟩
  by_cases hcd:c=d
  ·subst hcd
   have hlt:c < row.length:=by
    have:=(List.getElem?_eq_some_iff.1 hd).1
    simpa using this
   rw [List.getElem?_set_self hlt] at hd
   obtain rfl:=Option.some.inj hd
   obtain ⟨v,h4,_⟩:=h3 c _ (List.getElem?_eq_getElem hlt)
   exact ⟨v,h4,ha v h4⟩
  ·rw [List.getElem?_set_ne hcd] at hd
   exact h3 d b hd
 ·rw [List.getElem?_set_ne hij] at hj
  exact r j row' hj
theorem row_value (hr:Rel μ h w) {l z i c:Nat} {rs:List (List AV)} {wr:Bool} {row:List AV} {a:AV} (hl:h[l]? = some (.rows z rs wr)) (hi:rs[i]? = some row) (hc:row[c]? = some a):∃ b vs T v,μ l=some b∧SomeRow w b vs T∧vs[i*z+c]? = some v∧Rep μ h w a v:=by
 rcases hr.blk l _ hl with ⟨h1,_⟩ | ⟨b,vs,T,h1,⟨fz,h2,hf⟩,h3,h4⟩
 ·rw [h1.at hi] at hc;simp at hc
 ·obtain ⟨v,h5,h6⟩:=(h4 i row hi).2.2 c a hc
  exact ⟨b,vs,T,v,h1,⟨fz,h2⟩,h5,h6⟩
theorem row_update (hr:Rel μ h w) {l z i c:Nat} {rs:List (List AV)} {wr:Bool} {row:List AV} {a':AV} (hl:h[l]? = some (.rows z rs wr)) (hi:rs[i]? = some row) (hs:single a'=true)
  (ha:∀ b vs T v,μ l=some b→SomeRow w b vs T→vs[i*z+c]? = some v→Rep μ h w a' v):Rel μ (h.set l (.rows z (rs.set i (row.set c a')) wr)) w∧Ext μ h w μ (h.set l (.rows z (rs.set i (row.set c a')) wr)) w:=by
 rcases hr.blk l _ hl with ⟨h1,_⟩ | ⟨b,vs,T,h1,⟨fz,h2,hf⟩,h3,h4⟩
 ·have hrow:row=[]:=h1.at hi
  subst hrow
  have hs:rs.set i (([]:List AV).set c a')=rs:=by
   apply List.ext_getElem?
   intro j
   by_cases hij:i=j
   ·subst hij
    rw [List.getElem?_set_self (List.getElem?_eq_some_iff.1 hi).1,hi];rfl
   ·rw [List.getElem?_set_ne hij]
  rw [hs,list_set_same hl]
  exact ⟨hr,Ext.refl _ _ _⟩
 ·have hu:Ext μ h w μ (h.set l (.rows z (rs.set i (row.set c a')) wr)) w:=Ext.update hr hl h1 h2 h2 (fun _ _=>rfl) rfl rfl rfl (Nat.le_refl _) rfl (fun _ _ hv _=>hv) (fun o ho=>by
    rcases ho with ho | ho
    ·exact .inl ho
    ·exact .inr (by simpa using ho)) ⟨rfl,by simp⟩
  refine ⟨Rel.update hr hl h1 (fun _ _=>rfl) hu (.inr ⟨b,vs,T,h1,⟨fz,h2,by simpa using hf⟩,by simpa using h3,?_⟩),hu⟩
  exact (h4.cell hi hs fun v hv=>ha b vs T v h1 ⟨fz,h2⟩ hv).ext hu
theorem frzR_sound {t:Array Value} {k:Nat} {fr:Fr} (hk:h0.length=k) (j c:Nat) (x:Option (Nat×Nat)) (hr:Rel μ h w) (ex:Ext μ0 h0 w0 μ h w) (hf:FrRel μ h w fr t):∃ μ',Rel μ' (frzR k fr h j c x) w∧Ext μ0 h0 w0 μ' (frzR k fr h j c x) w∧FrRel μ' (frzR k fr h j c x) w fr t:=by
 have rest:∃ μ',Rel μ' h w∧Ext μ0 h0 w0 μ' h w∧FrRel μ' h w fr t:=⟨μ,hr,ex,hf⟩
 unfold frzR
 split
 ·rename_i l n
  split
  ·split
   ·rename_i z rs wr hl
    split
    ·rename_i row hi
     split
     ·rename_i l' n' hc
      split
      ·rename_i z' ts wr' hl'
       split
       ·rename_i hcc
        obtain ⟨c1,c2,cz,c3,c4⟩:=hcc
        have hlt:l' < h.length:=(List.getElem?_eq_some_iff.1 hl').1
        have hne:l'≠l:=fun e=>by
         subst e
         rw [hl] at hl'
         simp only [Option.some.injEq,Blk.rows.injEq] at hl'
         obtain ⟨_,rfl,_⟩:=hl'
         have:=locsL_mem (locsR_mem cz (List.mem_of_getElem? hi)) (List.mem_of_getElem? hc)
         simp [locs] at this
        obtain ⟨b,vs,T,v,m1,m2,m3,m4⟩:=row_value hr hl hi hc
        obtain ⟨wr1,r1,e1,p1⟩:=sealed hr hl' c1 cz m4
        have hl1:(h.set l' (.rows z' ts wr1))[l]? = some (.rows z rs wr):=by rw [List.getElem?_set_ne hne];exact hl
        obtain ⟨r2,hu⟩:=row_update (c:=c) (a':=.rows ts) r1 hl1 hi rfl fun b' vs' T' v' q1 q2 q3=>by
         rw [m1] at q1
         obtain rfl:=Option.some.inj q1
         obtain rfl:=q2.same m2
         rw [m3] at q3
         obtain rfl:=Option.some.inj q3
         exact Rep.pure _ _ p1
        have hcz:l'∉locsR ts:=by rw [cz];simp
        exact seal_hole hk hlt hne c2 hcz c3 c4 r2 ((ex.trans e1).trans hu) (FrRel.ext hu (FrRel.ext e1 hf))
       ·exact rest
      ·exact rest
     ·rename_i hc
      obtain ⟨b,vs,T,v,m1,m2,m3,m4⟩:=row_value hr hl hi hc
      obtain ⟨r2,hu⟩:=row_update (c:=c) (a':=.rows []) hr hl hi rfl fun b' vs' T' v' q1 q2 q3=>by
       rw [m1] at q1
       obtain rfl:=Option.some.inj q1
       obtain rfl:=q2.same m2
       rw [m3] at q3
       obtain rfl:=Option.some.inj q3
       have hv:v=.slice none 0 0:=m4
       exact ⟨none,0,hv,Nat.le_refl _,.inl rfl⟩
      exact ⟨μ,r2,ex.trans hu,FrRel.ext hu hf⟩
     ·exact rest
    ·exact rest
   ·exact rest
  ·exact rest
 ·exact rest
theorem newR_sound {t:Array Value} {fr:Fr} (c z:Nat) (q:Bool) (x:Option (Nat×Nat)) (hr:Rel μ h w) (ex:Ext μ0 h0 w0 μ h w) (hf:FrRel μ h w fr t):∃ μ',Rel μ' (newR h c z q x) w∧Ext μ0 h0 w0 μ' (newR h c z q x) w∧FrRel μ' (newR h c z q x) w fr t:=by
 have rest:∃ μ',Rel μ' h w∧Ext μ0 h0 w0 μ' h w∧FrRel μ' h w fr t:=⟨μ,hr,ex,hf⟩
 unfold newR
 split
 ·rename_i l n
  split
  ·rename_i y rs wr hl
   split
   ·rename_i row hi
    split
    ·rename_i hc
     have hp:=Ext.push hr (.rows z [] q) none
     have hr1:Rel (μ.set h.length none) (h++[Blk.rows z [] q]) w:=Rel.push hr (.rows z [] q) none (.inl ⟨Blank.nil,set_same _ _⟩)
     have hlt:=(List.getElem?_eq_some_iff.1 hl).1
     have hl1:(h++[Blk.rows z [] q])[l]? = some (.rows y rs wr):=by rw [List.getElem?_append_left hlt];exact hl
     obtain ⟨b,vs,T,v,m1,m2,m3,m4⟩:=row_value hr1 hl1 hi hc
     obtain ⟨r2,hu⟩:=row_update (c:=c) (a':=.own h.length 0) hr1 hl1 hi rfl fun b' vs' T' v' q1 q2 q3=>by
      rw [m1] at q1
      obtain rfl:=Option.some.inj q1
      obtain rfl:=q2.same m2
      rw [m3] at q3
      obtain rfl:=Option.some.inj q3
      have hv:v=.slice none 0 0:=m4
      exact ⟨z,[],q,none,0,by simp,Nat.le_refl _,hv,fun _=>⟨Nat.le_refl _,fun _=>rfl,.inl rfl⟩⟩
     exact ⟨_,r2,ex.trans (Ext.trans hp hu),FrRel.ext (Ext.trans hp hu) hf⟩
    ·exact rest
   ·exact rest
  ·exact rest
 ·exact rest
theorem renF_get (σ:Nat→Nat):∀ (fr:Fr) (i:Nat),get (renF σ fr) i=ren σ (get fr i)
 | [],_=>rfl
 | (j,v)::r,i=>by
  simp only [renF,get]
  split
  ·rfl
  ·exact renF_get σ r i
theorem tidy_sound {t:Array Value} {k:Nat} {fr:Fr} (hk:h0.length=k) (hr:Rel μ h w) (ex:Ext μ0 h0 w0 μ h w) (hf:FrRel μ h w fr t):∃ μ',Rel μ' (tidy k fr h).2 w∧Ext μ0 h0 w0 μ' (tidy k fr h).2 w∧FrRel μ' (tidy k fr h).2 w (tidy k fr h).1 t:=by
 subst hk
 have rest:∃ μ',Rel μ' h w∧Ext μ0 h0 w0 μ' h w∧FrRel μ' h w fr t:=⟨μ,hr,ex,hf⟩
 unfold tidy tidyBy
 obtain ⟨s,hs⟩:=reach_more h 1000 (locsH (h.take h0.length)++locsF fr) (List.range h0.length)
 have hnd:=reach_nodup h 1000 (locsH (h.take h0.length)++locsF fr) (List.range h0.length) List.nodup_range
 generalize reach h 1000 (locsH (h.take h0.length)++locsF fr) (List.range h0.length)=ls at hs hnd ⊢
 split
 ·rename_i hh hsub
  split
  ·rename_i hc
   obtain ⟨h1,h4⟩:=sub_at h _ _ _ hsub
   have hp:IsPart h ls hh:=⟨hnd,h1,h4,under_mem hc.1⟩
   refine ⟨pickMp μ ls,hp.prel hr,hp.pext (fun i hi=>?_) ?_ ex,fun i=>?_⟩
   ·rw [hs,List.getElem?_append_left (by simpa using hi)]
    simp [hi]
   ·rw [hs];simp
   ·rw [renF_get]
    exact hp.prep (fun l hl=>(posOf_lt _ _).1 (under_mem hc.2 _ (List.mem_map_of_mem (FrRel.cut.get_locs _ _ _ hl)))) (hf i)
  ·exact rest
 ·exact rest
theorem frzO_sound {t:Array Value} {k:Nat} {fr:Fr} (hk:h0.length=k) (i c:Nat) (hr:Rel μ h w) (ex:Ext μ0 h0 w0 μ h w) (hf:FrRel μ h w fr t):∃ μ',Rel μ' (frzO k fr h i c) w∧Ext μ0 h0 w0 μ' (frzO k fr h i c) w∧FrRel μ' (frzO k fr h i c) w fr t:=by
 unfold frzO
 split
 ·exact frzR_sound hk _ _ _ hr ex hf
 ·exact ⟨μ,hr,ex,hf⟩
theorem frzI_sound {t:Array Value} {k:Nat} {fr:Fr} (hk:h0.length=k) (c:Nat) (x:Option (Nat×Nat)):∀ (q:Nat) (h:Heap) (μ:Mp Bs),Rel μ h w→Ext μ0 h0 w0 μ h w→FrRel μ h w fr t→∃ μ',Rel μ' (frzI k fr c x q h) w∧Ext μ0 h0 w0 μ' (frzI k fr c x q h) w∧FrRel μ' (frzI k fr c x q h) w fr t
 | 0,h,μ,hr,ex,hf=>⟨μ,hr,ex,hf⟩
 | q+1,h,μ,hr,ex,hf=>by
  obtain ⟨μ',q1,q2,q3⟩:=frzR_sound hk q c x hr ex hf
  exact frzI_sound hk c x q _ μ' q1 q2 q3
theorem pops_sound {t:Array Value} {k:Nat} (hk:h0.length=k):∀ (c:List Pop) (fr:Fr) (h:Heap) (μ:Mp Bs),Rel μ h w→Ext μ0 h0 w0 μ h w→FrRel μ h w fr t→∃ μ',Rel μ' (pops k c fr h).2 w∧Ext μ0 h0 w0 μ' (pops k c fr h).2 w∧FrRel μ' (pops k c fr h).2 w (pops k c fr h).1 t
 | [],fr,h,μ,hr,ex,hf=>⟨μ,hr,ex,hf⟩
 | .cell i d::r,fr,h,μ,hr,ex,hf=>by
  obtain ⟨μ',q1,q2,q3⟩:=frzC_sound hk i d hr ex hf
  exact pops_sound hk r _ _ _ q1 q2 q3
 | .row i d j c::r,fr,h,μ,hr,ex,hf=>by
  obtain ⟨μ',q1,q2,q3⟩:=frzR_sound hk j c (ownAt fr h i d) hr ex hf
  exact pops_sound hk r _ _ _ q1 q2 q3
 | .new i d c z q::r,fr,h,μ,hr,ex,hf=>by
  obtain ⟨μ',q1,q2,q3⟩:=newR_sound c z q (ownAt fr h i d) hr ex hf
  exact pops_sound hk r _ _ _ q1 q2 q3
 | .tidy::r,fr,h,μ,hr,ex,hf=>by
  obtain ⟨μ',q1,q2,q3⟩:=tidy_sound hk hr ex hf
  exact pops_sound hk r _ _ _ q1 q2 q3
 | .whenF i::r,fr,h,μ,hr,ex,hf=>by
  simp only [pops]
  split
  ·exact pops_sound hk r _ _ _ hr ex hf
  ·exact ⟨μ,hr,ex,hf⟩
 | .whenN i d c::r,fr,h,μ,hr,ex,hf=>by
  simp only [pops]
  split
  ·exact pops_sound hk r _ _ _ hr ex hf
  ·exact ⟨μ,hr,ex,hf⟩
 | .whenT i::r,fr,h,μ,hr,ex,hf=>by
  simp only [pops]
  split
  ·exact pops_sound hk r _ _ _ hr ex hf
  ·exact ⟨μ,hr,ex,hf⟩
 | .inner i d j c c2::r,fr,h,μ,hr,ex,hf=>by
  obtain ⟨μ',q1,q2,q3⟩:=frzI_sound hk c2 (ownIn h j c (ownAt fr h i d)) (lenO (ownIn h j c (ownAt fr h i d))) h μ hr ex hf
  exact pops_sound hk r _ _ _ q1 q2 q3
 | .opt i c::r,fr,h,μ,hr,ex,hf=>by
  obtain ⟨μ',q1,q2,q3⟩:=frzO_sound hk i c hr ex hf
  exact pops_sound hk r _ _ _ q1 q2 q3
 | .keep l::r,fr,h,μ,hr,ex,hf=>pops_sound hk r _ _ _ hr ex (hf.restr l)
end
section
variable {Bs:World→Prop}
variable {C:Cfg} {F:Tk→Res}
theorem out_runs (hR:Runs Bs C F) {f k:Nat} {ks:List It} {n:Nat} {fr:Fr} {h h':Heap} {r:AV} {o:Option (List Nat)} (e:outOf F f k ks n fr h o=some (r,h')) {fn:Func} (hfn:C.P.funcs[f]? = some fn) (hks:ItsOk C f fn.ntmps ks) {b:Frame} {cs:List Frame} {a:Act} {μ:Mp Bs} {w:World} {μ0:Mp Bs} {h0:Heap} {w0:World}
  (hk:h0.length=k) (hr:Rel μ h w) (ex:Ext μ0 h0 w0 μ h w) (hf:FrRel μ h w fr a.tmps) (hn:fn.ntmps≤a.tmps.size) (hd:a.defers=[]):Ran C.P fn (lone (b.at a (items ks)) cs w) b cs μ0 h0 w0 r h':=by
 cases o with
 | none=>exact hR f k ks fr h r h' e fn hfn hks b cs a μ w μ0 h0 w0 hk hr ex hf hn hd
 | some l =>
  simp only [outOf] at e
  split at e
  ·rename_i hc
   simp only [Bool.and_eq_true,decide_eq_true_eq] at hc
   obtain ⟨h1,h2,h3⟩:=hc
   exact hR f k ks _ _ r h' e fn hfn hks b cs a μ w μ0 h0 w0 hk (hr.cut h3) (ex.cut (by omega)) (FrRel.cut h2 (hf.restr l)) hn hd
  ·exact hR f k ks _ _ r h' e fn hfn hks b cs a μ w μ0 h0 w0 hk hr ex (hf.restr l) hn hd
theorem pstOf_ok {f n id:Nat} {ks:List It} (h:ItsOk C f n ks):∀ ps:List (Nat×List Nat×List Pop),ItsOk C f n (pstOf id ks ps)∧items (pstOf id ks ps)=items ks
 | []=>⟨h,rfl⟩
 | (j,l,c)::r=>by
  simp only [pstOf]
  split
  ·exact ⟨ItsOk.cons (x:=.pst l c) trivial h,rfl⟩
  ·exact pstOf_ok h r
theorem code_runs (hC:CfgOk Bs C) (hF:Knows Bs C.P F) (hR:Runs Bs C F):Runs Bs C (stepT C F):=by
 intro f k ks fr h r h' e fn hfn hks b cs a μ w μ0 h0 w0 hk hr ex hf hn hd
 match ks,hks,e with
 | [],_,e=>exact Ran.of_steps (.one step_end) (ret_sound hfn e hk hr ex hf hd)
 | .blk id n::ks,hks,e=>exact Ran.of_steps (.one step_inBlock) (out_runs hR e hfn hks.tail hk hr ex hf hn hd)
 | .lp c none n::ks,hks,e=>exact Ran.of_steps (.one step_inLoop) (hR f k _ fr h r h' e fn hfn (ItsOk.cons hks.head hks) b cs a μ w μ0 h0 w0 hk hr ex hf hn hd)
 | .lp c (some live) n::ks,hks,e =>
  simp only [stepT,onRound,onTurn] at e
  split at e
  ·rename_i fr1 h1 hz
   obtain ⟨μ1,q1,q2,q3⟩:=frz_sound hk live.2 _ _ _ _ _ hr ex (hf.restr live.1) hz
   split at e
   ·rename_i hc
    simp only [Bool.and_eq_true,decide_eq_true_eq] at hc
    obtain ⟨c1,c2,c3⟩:=hc
    exact Ran.of_steps (.one step_inLoop) (hR f k _ _ _ r h' e fn hfn (ItsOk.cons hks.head hks) b cs a μ1 w μ0 h0 w0 hk (q1.cut c3) (q2.cut (by omega)) (FrRel.cut c2 q3) hn hd)
   ·exact Ran.of_steps (.one step_inLoop) (hR f k _ _ _ r h' e fn hfn (ItsOk.cons hks.head hks) b cs a μ1 w μ0 h0 w0 hk q1 q2 q3 hn hd)
  ·simp at e
 | .pst l c::ks,hks,e =>
  simp only [stepT] at e
  obtain ⟨μ1,q1,q2,q3⟩:=pops_sound hk c _ _ _ hr ex (hf.restr l)
  exact Ran.of_steps (.refl _ _) (hR f k ks _ _ r h' e fn hfn hks.tail b cs a μ1 w μ0 h0 w0 hk q1 q2 q3 hn hd)
 | .code c::ks,hks,e =>
  have hc:CodeOk C f fn.ntmps c:=hks.head
  cases c with
  | skip=>exact Ran.of_steps (.one step_skip) (hR f k ks fr h r h' e fn hfn hks.tail b cs a μ w μ0 h0 w0 hk hr ex hf hn hd)
  | seq x y=>exact Ran.of_steps (.one step_seq) (hR f k _ fr h r h' e fn hfn (ItsOk.cons hc.1 (ItsOk.cons hc.2 hks.tail)) b cs a μ w μ0 h0 w0 hk hr ex hf hn hd)
  | region id ops draw =>
   simp only [stepT,onReg] at e
   split at e
   ·rename_i fr1 h1 hreg
    obtain ⟨x,a1,w1,⟨rfl,μ1,q1,q2,q3,q4,q5⟩,harr⟩:=region_sound hC hF hc hn hr hf hreg b (items ks) cs
    have hp:=pstOf_ok (id:=id) hks.tail (C.post f)
    have hrun:=hR f k _ fr1 h1 r h' e fn hfn hp.1 b cs a1 μ1 w1 μ0 h0 w0 hk q1 (ex.trans q2) q3 (by omega) (by rw [q5];exact hd)
    rw [hp.2] at hrun
    exact Ran.of_steps harr hrun
   ·simp at e
  | cond x p q =>
   simp only [stepT,onCond] at e
   split at e
   ·rename_i t ht
    have hx:=ev_rep hf x
    rw [ht] at hx
    have hx':a.eval x=.bool t:=hx
    have hstep:=step_cond (P:=C.P) (b:=b) (k:=items ks) (cs:=cs) (w:=w) (x:=p) (y:=q) hx'
    cases t with
    | true=>exact Ran.of_steps (.one hstep) (hR f k _ fr h r h' e fn hfn (ItsOk.cons hc.1 hks.tail) b cs a μ w μ0 h0 w0 hk hr ex hf hn hd)
    | false=>exact Ran.of_steps (.one hstep) (hR f k _ fr h r h' (by simpa using e) fn hfn (ItsOk.cons (x:=.code q) hc.2 hks.tail) b cs a μ w μ0 h0 w0 hk hr ex hf hn hd)
   ·simp at e
  | block id c =>
   have plain:F (.run f k (.code c::.blk id h.length::ks) fr h)=some (r,h')→Ran C.P fn (lone (b.at a (items (.code (.block id c)::ks))) cs w) b cs μ0 h0 w0 r h':=fun e =>
    Ran.of_steps (.one step_block) (hR f k _ fr h r h' e fn hfn (ItsOk.cons (x:=.code c) hc (ItsOk.cons (x:=.blk id h.length) trivial hks.tail)) b cs a μ w μ0 h0 w0 hk hr ex hf hn hd)
   simp only [stepT,onBlock] at e
   split at e
   ·rename_i live os fz hl
    split at e
    ·rename_i c'
     unfold onLoop at e
     split at e
     ·rename_i fr2 h2 hz
      obtain ⟨μ1,q1,q2,q3⟩:=owned_sound os fr _ h _ μ hr hf rfl
      obtain ⟨μ2,p1,p2,p3⟩:=frz_sound hk fz _ _ _ _ _ q1 (ex.trans q2) (q3.restr live) hz
      exact Ran.of_steps (.head step_block (.one step_loop)) (hR f k _ _ _ r h' e fn hfn (ItsOk.cons (x:=.code c') hc (ItsOk.cons (x:=.lp c' _ _) hc (ItsOk.cons (x:=.blk id _) trivial hks.tail))) b cs a μ2 w μ0 h0 w0 hk p1 p2 p3 hn hd)
     ·simp at e
    ·exact plain e
   ·exact plain e
  | loop c=>exact Ran.of_steps (.one step_loop) (hR f k _ fr h r h' e fn hfn (ItsOk.cons (x:=.code c) hc (ItsOk.cons (x:=.lp c none 0) hc hks.tail)) b cs a μ w μ0 h0 w0 hk hr ex hf hn hd)
  | exit id =>
   simp only [stepT,onUnw] at e
   split at e
   ·rename_i n ks' hu
    obtain ⟨h1,h2⟩:=unwind_items hu
    exact Ran.of_steps (.one (step_exit h1)) (out_runs hR e hfn (fun x hx=>hks x (List.mem_cons_of_mem _ (h2 x hx))) hk hr ex hf hn hd)
   ·simp at e
  | ret=>exact Ran.of_steps (.one step_ret) (ret_sound hfn e hk hr ex hf hd)
  | _=>simp [stepT] at e
theorem calls_known (hC:CfgOk Bs C) (hR:Runs Bs C F):Knows Bs C.P (stepT C F):=by
 intro f args h r h' e
 simp only [stepT] at e
 split at e
 ·rename_i v hv
  split at e
  ·simp only [Option.some.injEq,Prod.mk.injEq] at e
   obtain ⟨rfl,rfl⟩:=e
   exact hC.prim f args _ hv
  ·simp at e
 ·split at e
  ·rename_i x hx
   simp only [Option.some.injEq] at e
   subst e
   exact hC.primH f args h _ _ hx
  ·split at e
   ·rename_i hg
    exact enter_called hC hR hg e
   ·simp at e
theorem run_known (hC:CfgOk Bs C):∀ n,Knows Bs C.P (Go.Ab.runN C n)∧Runs Bs C (Go.Ab.runN C n)
 | 0=>⟨fun _ _ _ _ _ e=>by simp [Go.Ab.runN] at e,fun _ _ _ _ _ _ _ e=>by simp [Go.Ab.runN] at e⟩
 | n+1=>by
  obtain ⟨h1,h2⟩:=run_known hC n
  exact ⟨calls_known hC h2,code_runs hC h1 h2⟩
theorem runN_sound (hC:CfgOk Bs C) {n:Nat} {f:Nat} {args:List AV} {h h':Heap} {r:AV} (e:Go.Ab.runN C n (.call f args h)=some (r,h')):Called Bs C.P f args h r h':=((run_known hC n).1 f args h r h' e).2
end
section
variable {Bs:World→Prop}
def lo {α:Type} (a b:Option α):Prop:=a=none∨a=b
theorem lo.map {α β:Type} {a b:Option α} (g:Option α→Option β) (h0:g none=none) (h:lo a b):lo (g a) (g b):=by
 rcases h with h | h
 ·exact .inl (by rw [h,h0])
 ·exact .inr (by rw [h])
def leF (F F':Tk→Res):Prop:=∀ t,lo (F t) (F' t)
end
section
variable {Bs:World→Prop}
variable {C:Cfg} {F F':Tk→Res} {h:Heap} {ev:Operand→AV}
theorem callD_lo {nl:FuncId→Bool×Nat} (hF:leF F F') (args:List AV) (f:AV):lo (callD nl F h args f) (callD nl F' h args f):=by
 unfold callD
 split
 ·split
  ·exact (hF _).map afterD rfl
  ·exact .inr rfl
 ·exact .inr rfl
theorem callIn_lo (hF:leF F F') (g:Nat) (ls:List Nat) (args:List AV):lo (callIn F g h ls args) (callIn F' g h ls args):=by
 unfold callIn
 split
 ·split
  ·split
   ·exact (hF _).map (afterIn h ls) rfl
   ·exact .inr rfl
  ·exact .inr rfl
 ·exact .inr rfl
theorem lookBy_lo (hF:leF F F') (g:Nat) (o:Option (List AV)):lo (lookBy F g h o) (lookBy F' g h o):=by
 unfold lookBy
 split
 ·exact (hF _).map (borrowed h) rfl
 ·exact .inr rfl
theorem callBy_lo (hF:leF F F') (bw:Nat) (g:Nat) (args:List AV) (o:Option (List AV)):lo (callBy bw F g h args o) (callBy bw F' g h args o):=by
 unfold callBy
 split
 ·exact (hF _).map (afterPure h) rfl
 ·split
  ·exact lookBy_lo hF _ _
  ·exact hF _
  ·split
   ·exact callIn_lo hF _ _ _
   ·exact .inr rfl
theorem callV_lo (hF:leF F F') (nl:FuncId→Bool×Nat) (args:List AV) (f:AV):lo (callV nl F h args f) (callV nl F' h args f):=by
 unfold callV
 split
 ·exact callBy_lo hF _ _ _ _
 ·exact callBy_lo hF _ _ _ _
 ·exact .inr rfl
theorem stepD_lo (hF:leF F F') (o:Op):lo (stepD C F ev h o) (stepD C F' ev h o):=by
 cases o with
 | call c =>
  simp only [stepD,callOpD]
  split
  ·exact callD_lo hF _ _
  ·exact .inr rfl
  ·exact .inr rfl
 | makeFunc f first captured=>cases f<;>exact .inr rfl
 | slice t x lo hi mx =>
  cases mx
  ·exact .inr rfl
  ·cases lo<;>cases hi<;>exact .inr rfl
 | _=>exact .inr rfl
theorem stepO_lo (hF:leF F F') (o:Op):lo (stepO C F ev h o) (stepO C F' ev h o):=by
 have hd:lo (val h (stepD C F ev h o)) (val h (stepD C F' ev h o)):=(stepD_lo hF o).map (val h) rfl
 cases o with
 | call c =>
  simp only [stepO,callOp]
  split
  ·exact callV_lo hF _ _ _
  ·exact .inr rfl
  ·exact .inr rfl
  ·exact .inr rfl
  ·exact .inr rfl
  ·exact .inr rfl
  ·exact .inr rfl
 | alloc t=>exact .inr rfl
 | box t x=>exact .inr rfl
 | store t a v=>exact .inr rfl
 | makeSlice t n m=>exact .inr rfl
 | convert t u y=>exact .inr rfl
 | buildSlice t n ps=>exact .inr rfl
 | makeMap t r=>cases r<;>exact .inr rfl
 | mapUpdate t m k v=>exact .inr rfl
 | insert t m k v=>exact .inr rfl
 | _=>simpa only [stepO] using hd
theorem lv_lo (hF:leF F F'):leF (lv F) (lv F'):=fun t=>by
 unfold lv
 split
 ·exact (hF _).map lvR rfl
 ·exact hF _
theorem stepW_lo {n:Nat} (hF:leF F F') (o:Op):lo (stepW F n ev h o) (stepW F' n ev h o):=by
 unfold stepW
 split
 ·split
  ·split
   ·exact callIn_lo hF _ _ _
   ·exact .inr rfl
  ·exact .inr rfl
 ·exact .inr rfl
theorem stepQ_lo (hF:leF F F') (dy:List (Nat×Nat)) (pl:Nat→Nat) (i:Nat) (o:Op):lo (stepQ C F dy pl i ev h o) (stepQ C F' dy pl i ev h o):=by
 unfold stepQ
 split
 ·exact (stepD_lo (lv_lo hF) o).map (val h) rfl
 ·split
  ·exact .inr rfl
  ·split
   ·exact stepW_lo hF o
   ·exact stepO_lo hF o
theorem aOps_lo (hF:leF F F') (all:List Oper):∀ (l:List Oper) (fr:Fr) (h:Heap),lo (aOps C F all l fr h) (aOps C F' all l fr h)
 | [],_,_=>.inr rfl
 | o::l,fr,h=>by
  have step:lo (match stepO C F (ev fr) h o.op with
    | some (v,h)=>aOps C F all l (put fr o.dst v) h
    | none=>none) (match stepO C F' (ev fr) h o.op with
    | some (v,h)=>aOps C F' all l (put fr o.dst v) h
    | none=>none):=by
   rcases stepO_lo (C:=C) (ev:=ev fr) (h:=h) hF o.op with e | e
   ·rw [e];exact .inl rfl
   ·rw [e]
    split
    ·exact aOps_lo hF all l _ _
    ·exact .inr rfl
  simp only [aOps]
  split
  ·exact step
  ·split
   ·split
    ·exact step
    ·exact aOps_lo hF all l _ _
   ·exact aOps_lo hF all l _ _
   ·exact .inr rfl
theorem aOpsD_lo (hF:leF F F') (dy:List (Nat×Nat)) (pl:Nat→Nat) (all:List Oper):∀ (l:List Oper) (i:Nat) (fr:Fr) (h:Heap),lo (aOpsD C F dy pl all i l fr h) (aOpsD C F' dy pl all i l fr h)
 | [],_,_,_=>.inr rfl
 | o::l,i,fr,h=>by
  have step:lo (match stepQ C F dy pl i (ev fr) h o.op with
    | some (v,h')=>match aOpsD C F dy pl all (i+1) l (put fr o.dst v) h' with
     | some (fr',h'',l)=>some (fr',h'',(i,chg h h' (touchesQ (pl 0) dy i (ev fr) h o.op))::l)
     | none=>none
    | none=>none) (match stepQ C F' dy pl i (ev fr) h o.op with
    | some (v,h')=>match aOpsD C F' dy pl all (i+1) l (put fr o.dst v) h' with
     | some (fr',h'',l)=>some (fr',h'',(i,chg h h' (touchesQ (pl 0) dy i (ev fr) h o.op))::l)
     | none=>none
    | none=>none):=by
   rcases stepQ_lo (C:=C) (ev:=ev fr) (h:=h) hF dy pl i o.op with e | e
   ·rw [e];exact .inl rfl
   ·rw [e]
    split
    ·rename_i v h' _
     rcases aOpsD_lo hF dy pl all l (i+1) (put fr o.dst v) h' with e2 | e2
     ·rw [e2];exact .inl rfl
     ·rw [e2];exact .inr rfl
    ·exact .inr rfl
  simp only [aOpsD]
  split
  ·exact step
  ·split
   ·split
    ·exact step
    ·exact aOpsD_lo hF dy pl all l _ _ _
   ·exact aOpsD_lo hF dy pl all l _ _ _
   ·exact .inr rfl
theorem outOf_lo (hF:leF F F') (f k:Nat) (ks:List It) (n:Nat) (fr:Fr) (h:Heap) (o:Option (List Nat)):lo (outOf F f k ks n fr h o) (outOf F' f k ks n fr h o):=by
 cases o with
 | none=>exact hF _
 | some l =>
  simp only [outOf]
  split
  ·exact hF _
  ·exact hF _
theorem stepT_lo (hF:leF F F') (t:Tk):lo (stepT C F t) (stepT C F' t):=by
 match t with
 | .call f args h =>
  simp only [stepT]
  split
  ·exact .inr rfl
  ·split
   ·exact .inr rfl
   ·split
    ·unfold enter
     split
     ·split
      ·exact hF _
      ·exact .inr rfl
     ·exact .inr rfl
    ·exact .inr rfl
 | .run f k [] fr h=>exact .inr rfl
 | .run f k (.blk _ _::ks) fr h=>exact outOf_lo hF _ _ _ _ _ _ _
 | .run f k (.pst l c::ks) fr h=>exact hF _
 | .run f k (.lp c none n::ks) fr h=>exact hF _
 | .run f k (.lp c (some live) n::ks) fr h =>
  simp only [stepT,onRound]
  unfold onTurn
  split
  ·split
   ·exact hF _
   ·exact hF _
  ·exact .inr rfl
 | .run f k (.code c::ks) fr h =>
  cases c with
  | skip=>exact hF _
  | seq a b=>exact hF _
  | region id ops draw =>
   simp only [stepT]
   have:lo (regionV C F f id ops.toList draw fr h) (regionV C F' f id ops.toList draw fr h):=by
    cases draw with
    | false=>exact aOps_lo hF _ _ _ _
    | true=>exact (aOpsD_lo hF _ _ _ _ _ _ _).map (shutD _) rfl
   rcases this with e | e
   ·rw [e];exact .inl rfl
   ·rw [e]
    unfold onReg
    split
    ·exact hF _
    ·exact .inr rfl
  | cond x a b =>
   simp only [stepT,onCond]
   split
   ·split
    ·exact hF _
    ·exact hF _
   ·exact .inr rfl
  | block id c =>
   simp only [stepT,onBlock]
   split
   ·split
    ·unfold onLoop
     split
     ·exact hF _
     ·exact .inr rfl
    ·exact hF _
   ·exact hF _
  | loop c=>exact hF _
  | exit id =>
   simp only [stepT,onUnw]
   split
   ·exact outOf_lo hF _ _ _ _ _ _ _
   ·exact .inr rfl
  | ret=>exact .inr rfl
  | _=>exact .inr rfl
theorem lo.trans {α:Type} {a b c:Option α} (h:lo a b) (h':lo b c):lo a c:=by
 rcases h with h | h
 ·exact .inl h
 ·rw [h];exact h'
theorem runN_succ:∀ (n:Nat) (t:Tk),lo (Go.Ab.runN C n t) (Go.Ab.runN C (n+1) t)
 | 0,_=>.inl rfl
 | n+1,t=>stepT_lo (C:=C) (F:=Go.Ab.runN C n) (F':=Go.Ab.runN C (n+1)) (runN_succ n) t
theorem runN_add (n:Nat) (t:Tk):∀ k,lo (Go.Ab.runN C n t) (Go.Ab.runN C (n+k) t)
 | 0=>.inr rfl
 | k+1=>(runN_add n t k).trans (runN_succ (n+k) t)
theorem runN_up {n m:Nat} (hm:n≤m) {t:Tk} {r:AV×Heap} (e:Go.Ab.runN C n t=some r):Go.Ab.runN C m t=some r:=by
 have:=runN_add (C:=C) n t (m - n)
 rw [show n+(m - n)=m by omega] at this
 rcases this with h | h
 ·rw [h] at e;simp at e
 ·rw [←h];exact e
open Classical in
noncomputable def R (C:Cfg) (t:Tk):Res:=if h:∃ n r,Go.Ab.runN C n t=some r then some h.choose_spec.choose else none
theorem R_of_runN {n:Nat} {t:Tk} {r:AV×Heap} (e:Go.Ab.runN C n t=some r):R C t=some r:=by
 have h:∃ n r,Go.Ab.runN C n t=some r:=⟨n,r,e⟩
 unfold R
 rw [dif_pos h]
 have h1:=runN_up (Nat.le_max_left n h.choose) e
 have h2:=runN_up (Nat.le_max_right n h.choose) h.choose_spec.choose_spec
 rw [h1] at h2
 exact h2.symm
theorem runN_of_R {t:Tk} {r:AV×Heap} (e:R C t=some r):∃ n,Go.Ab.runN C n t=some r:=by
 unfold R at e
 split at e
 ·rename_i h
  simp only [Option.some.injEq] at e
  exact ⟨_,e▸h.choose_spec.choose_spec⟩
 ·simp at e
theorem runN_no {t:Tk} (e:R C t=none) (n:Nat):Go.Ab.runN C n t=none:=by
 cases h:Go.Ab.runN C n t with
 | none=>rfl
 | some r=>rw [R_of_runN h] at e;simp at e
def Ev {α:Type} (C:Cfg) (G:(Tk→Res)→α):Prop:=∃ n,∀ m,n≤m→G (Go.Ab.runN C m)=G (R C)
theorem Ev.ask (t:Tk):Ev C fun F=>F t:=by
 cases e:R C t with
 | none=>exact ⟨0,fun m _=>by show Go.Ab.runN C m t=R C t;rw [e,runN_no e m]⟩
 | some r =>
  obtain ⟨n,h⟩:=runN_of_R e
  exact ⟨n,fun m hm=>by show Go.Ab.runN C m t=R C t;rw [e,runN_up hm h]⟩
theorem Ev.no {α:Type} (x:α):Ev C fun _=>x:=⟨0,fun _ _=>rfl⟩
theorem Ev.map {α β:Type} {G:(Tk→Res)→α} (h:Ev C G) (f:α→β):Ev C fun F=>f (G F):=by
 obtain ⟨n,h⟩:=h
 exact ⟨n,fun m hm=>congrArg f (h m hm)⟩
theorem Ev.bind {α β:Type} {G:(Tk→Res)→α} (h:Ev C G) (H:α→(Tk→Res)→β) (h':∀ a,Ev C (H a)):Ev C fun F=>H (G F) F:=by
 obtain ⟨n,h⟩:=h
 obtain ⟨k,h'⟩:=h' (G (R C))
 exact ⟨n+k,fun m hm=>by show H (G _) _=H (G _) _;rw [h m (by omega),h' m (by omega)]⟩
theorem callD_ev {nl:FuncId→Bool×Nat} (args:List AV) (f:AV):Ev C fun F=>callD nl F h args f:=by
 unfold callD
 split
 ·split
  ·exact (Ev.ask _).map afterD
  ·exact Ev.no _
 ·exact Ev.no _
theorem callIn_ev (g:Nat) (ls:List Nat) (args:List AV):Ev C fun F=>callIn F g h ls args:=by
 unfold callIn
 split
 ·split
  ·split
   ·exact (Ev.ask _).map (afterIn h ls)
   ·exact Ev.no _
  ·exact Ev.no _
 ·exact Ev.no _
theorem lookBy_ev (g:Nat) (o:Option (List AV)):Ev C fun F=>lookBy F g h o:=by
 unfold lookBy
 split
 ·exact (Ev.ask _).map (borrowed h)
 ·exact Ev.no _
theorem callBy_ev (bw:Nat) (g:Nat) (args:List AV) (o:Option (List AV)):Ev C fun F=>callBy bw F g h args o:=by
 unfold callBy
 split
 ·exact (Ev.ask _).map (afterPure h)
 ·split
  ·exact lookBy_ev _ _
  ·exact Ev.ask _
  ·split
   ·exact callIn_ev _ _ _
   ·exact Ev.no _
theorem callV_ev (nl:FuncId→Bool×Nat) (args:List AV) (f:AV):Ev C fun F=>callV nl F h args f:=by
 unfold callV
 split
 ·exact callBy_ev _ _ _ _
 ·exact callBy_ev _ _ _ _
 ·exact Ev.no _
theorem stepD_ev {D:Cfg} (o:Op):Ev C fun F=>stepD D F ev h o:=by
 cases o with
 | call c =>
  simp only [stepD,callOpD]
  split
  ·exact callD_ev _ _
  ·exact Ev.no _
  ·exact Ev.no _
 | makeFunc f first captured=>cases f<;>exact Ev.no _
 | slice t x lo hi mx =>
  cases mx
  ·exact Ev.no _
  ·cases lo<;>cases hi<;>exact Ev.no _
 | _=>exact Ev.no _
theorem stepO_ev {D:Cfg} (o:Op):Ev C fun F=>stepO D F ev h o:=by
 have hd:Ev C fun F=>val h (stepD D F ev h o):=(stepD_ev o).map (val h)
 cases o with
 | call c =>
  simp only [stepO,callOp]
  split
  ·exact callV_ev _ _ _
  ·exact Ev.no _
  ·exact Ev.no _
  ·exact Ev.no _
  ·exact Ev.no _
  ·exact Ev.no _
  ·exact Ev.no _
 | alloc t=>exact Ev.no _
 | box t x=>exact Ev.no _
 | store t a v=>exact Ev.no _
 | makeSlice t n m=>exact Ev.no _
 | convert t u y=>exact Ev.no _
 | buildSlice t n ps =>
  simp only [stepO]
  exact (stepD_ev _).map fun x=>orBuild h (buildN (D.wrB t) h ev n ps.toList (es D.P t)) (unlessB (D.wrB t) x)
 | makeMap t r=>cases r<;>exact Ev.no _
 | mapUpdate t m k v=>exact Ev.no _
 | insert t m k v=>exact Ev.no _
 | _=>simpa only [stepO] using hd
theorem lv_ev (t:Tk):Ev C fun F=>lv F t:=by
 unfold lv
 split
 ·exact (Ev.ask _).map lvR
 ·exact Ev.ask _
theorem callD_evL {nl:FuncId→Bool×Nat} (args:List AV) (f:AV):Ev C fun F=>callD nl (lv F) h args f:=by
 unfold callD
 split
 ·split
  ·exact (lv_ev _).map afterD
  ·exact Ev.no _
 ·exact Ev.no _
theorem stepD_evL (o:Op):Ev C fun F=>stepD C (lv F) ev h o:=by
 cases o with
 | call c =>
  simp only [stepD,callOpD]
  split
  ·exact callD_evL _ _
  ·exact Ev.no _
  ·exact Ev.no _
 | makeFunc f first captured=>cases f<;>exact Ev.no _
 | slice t x lo hi mx =>
  cases mx
  ·exact Ev.no _
  ·cases lo<;>cases hi<;>exact Ev.no _
 | _=>exact Ev.no _
theorem stepW_ev {n:Nat} (o:Op):Ev C fun F=>stepW F n ev h o:=by
 unfold stepW
 split
 ·split
  ·split
   ·exact callIn_ev _ _ _
   ·exact Ev.no _
  ·exact Ev.no _
 ·exact Ev.no _
theorem stepQ_ev (dy:List (Nat×Nat)) (pl:Nat→Nat) (i:Nat) (o:Op):Ev C fun F=>stepQ C F dy pl i ev h o:=by
 unfold stepQ
 split
 ·exact (stepD_evL o).map (val h)
 ·split
  ·exact Ev.no _
  ·split
   ·exact stepW_ev o
   ·exact stepO_ev o
theorem aOps_ev (all:List Oper):∀ (l:List Oper) (fr:Fr) (h:Heap),Ev C fun F=>aOps C F all l fr h
 | [],_,_=>Ev.no _
 | o::l,fr,h=>by
  have step:Ev C fun F=>(match stepO C F (Go.Ab.ev fr) h o.op with
    | some (v,h)=>aOps C F all l (put fr o.dst v) h
    | none=>none):=by
   refine Ev.bind (stepO_ev (ev:=Go.Ab.ev fr) (h:=h) o.op) (fun (x:Option (AV×Heap)) (F:Tk→Res)=>(match x with
    | some (v,h)=>aOps C F all l (put fr o.dst v) h
    | none=>none:Option (Fr×Heap))) ?_
   rintro (_ | ⟨v,h'⟩)
   ·exact Ev.no _
   ·exact aOps_ev all l _ _
  simp only [aOps]
  split
  ·exact step
  ·split
   ·split
    ·exact step
    ·exact aOps_ev all l _ _
   ·exact aOps_ev all l _ _
   ·exact Ev.no _
theorem aOpsD_ev (dy:List (Nat×Nat)) (pl:Nat→Nat) (all:List Oper):∀ (l:List Oper) (i:Nat) (fr:Fr) (h:Heap),Ev C fun F=>aOpsD C F dy pl all i l fr h
 | [],_,_,_=>Ev.no _
 | o::l,i,fr,h=>by
  have step:Ev C fun F=>(match stepQ C F dy pl i (Go.Ab.ev fr) h o.op with
    | some (v,h')=>match aOpsD C F dy pl all (i+1) l (put fr o.dst v) h' with
     | some (fr',h'',l)=>some (fr',h'',(i,chg h h' (touchesQ (pl 0) dy i (Go.Ab.ev fr) h o.op))::l)
     | none=>none
    | none=>none):=by
   refine Ev.bind (stepQ_ev (ev:=Go.Ab.ev fr) (h:=h) dy pl i o.op) (fun (x:Option (AV×Heap)) (F:Tk→Res)=>(match x with
    | some (v,h')=>match aOpsD C F dy pl all (i+1) l (put fr o.dst v) h' with
     | some (fr',h'',l)=>some (fr',h'',(i,chg h h' (touchesQ (pl 0) dy i (Go.Ab.ev fr) h o.op))::l)
     | none=>none
    | none=>none:Option (Fr×Heap×List (Nat×List Nat)))) ?_
   rintro (_ | ⟨v,h'⟩)
   ·exact Ev.no _
   ·exact (aOpsD_ev dy pl all l (i+1) (put fr o.dst v) h').map fun x=>match x with
     | some (fr',h'',l)=>some (fr',h'',(i,chg h h' (touchesQ (pl 0) dy i (Go.Ab.ev fr) h o.op))::l)
     | none=>none
  simp only [aOpsD]
  split
  ·exact step
  ·split
   ·split
    ·exact step
    ·exact aOpsD_ev dy pl all l _ _ _
   ·exact aOpsD_ev dy pl all l _ _ _
   ·exact Ev.no _
theorem outOf_ev (f k:Nat) (ks:List It) (n:Nat) (fr:Fr) (h:Heap) (o:Option (List Nat)):Ev C fun F=>outOf F f k ks n fr h o:=by
 cases o with
 | none=>exact Ev.ask _
 | some l =>
  simp only [outOf]
  split
  ·exact Ev.ask _
  ·exact Ev.ask _
theorem stepT_ev (t:Tk):Ev C fun F=>stepT C F t:=by
 match t with
 | .call f args h =>
  simp only [stepT]
  split
  ·exact Ev.no _
  ·split
   ·exact Ev.no _
   ·split
    ·unfold enter
     split
     ·split
      ·exact Ev.ask _
      ·exact Ev.no _
     ·exact Ev.no _
    ·exact Ev.no _
 | .run f k [] fr h=>exact Ev.no _
 | .run f k (.blk _ _::ks) fr h=>exact outOf_ev _ _ _ _ _ _ _
 | .run f k (.pst l c::ks) fr h=>exact Ev.ask _
 | .run f k (.lp c none n::ks) fr h=>exact Ev.ask _
 | .run f k (.lp c (some live) n::ks) fr h =>
  simp only [stepT,onRound]
  unfold onTurn
  split
  ·split
   ·exact Ev.ask _
   ·exact Ev.ask _
  ·exact Ev.no _
 | .run f k (.code c::ks) fr h =>
  cases c with
  | skip=>exact Ev.ask _
  | seq a b=>exact Ev.ask _
  | region id ops draw =>
   simp only [stepT]
   have:Ev C fun F=>regionV C F f id ops.toList draw fr h:=by
    cases draw with
    | false=>exact aOps_ev _ _ _ _
    | true=>exact (aOpsD_ev _ _ _ _ _ _ _).map (shutD _)
   refine Ev.bind this (fun x F=>onReg F f k (pstOf id ks (C.post f)) x) ?_
   rintro (_ | ⟨fr',h'⟩)
   ·exact Ev.no _
   ·exact Ev.ask _
  | cond x a b =>
   simp only [stepT,onCond]
   split
   ·split
    ·exact Ev.ask _
    ·exact Ev.ask _
   ·exact Ev.no _
  | block id c =>
   simp only [stepT,onBlock]
   split
   ·split
    ·unfold onLoop
     split
     ·exact Ev.ask _
     ·exact Ev.no _
    ·exact Ev.ask _
   ·exact Ev.ask _
  | loop c=>exact Ev.ask _
  | exit id =>
   simp only [stepT,onUnw]
   split
   ·exact outOf_ev _ _ _ _ _ _ _
   ·exact Ev.no _
  | ret=>exact Ev.no _
  | _=>exact Ev.no _
theorem R_eq (t:Tk):R C t=stepT C (R C) t:=by
 obtain ⟨n,h⟩:=stepT_ev (C:=C) t
 cases e:stepT C (R C) t with
 | some r=>exact R_of_runN (n:=n+1) ((h n (Nat.le_refl _)).trans e)
 | none =>
  cases e2:R C t with
  | none=>rfl
  | some r =>
   obtain ⟨m,hm⟩:=runN_of_R e2
   have h1:=runN_up (show m≤n+m+1 by omega) hm
   have h2:Go.Ab.runN C (n+m+1) t=none:=(h (n+m) (by omega)).trans e
   rw [h1] at h2
   simp at h2
theorem R_sound (hC:CfgOk Bs C) {f:Nat} {args:List AV} {h h':Heap} {r:AV} (e:R C (.call f args h)=some (r,h')):Go.Proofs.Enters C.P f∧Called Bs C.P f args h r h':=by
 obtain ⟨n,e⟩:=runN_of_R e
 exact (run_known hC n).1 f args h r h' e
end
def subs (acc:List (List Nat)):List Edge→List Nat
 | []=>[]
 | e::r=>if Region.binds .any e=true then e.on::(acc.getD e.on []++subs acc r) else subs acc r
def uniq:List Nat→List Nat
 | []=>[]
 | x::r=>if (uniq r).contains x=true then uniq r else x::uniq r
def closeB (acc:List (List Nat)):List Oper→List (List Nat)
 | []=>acc
 | o::r=>closeB (acc++[uniq (subs acc o.after.toList)]) r
def sameDst (i j:Nat) (oi oj:Oper):Bool :=
 match oi.dst,oj.dst with
 | some d,some d'=>!(d==d')||i==j
 | _,_=>true
def isDst (s:Nat) (o:Oper):Bool :=
 match o.dst with
 | some d=>d==s
 | none=>false
def pairB (dy:List (Nat×Nat)) (ops:Array Oper) (B:List (List Nat)) (j:Nat) (oj:Oper) (i:Nat) (oi:Oper):Bool :=
 (!(decide (i < j))||(bit B j i||(Oper.apart ops oi oj&&compat dy i j oi oj)))&&(sameDst i j oi oj&&(readsT oj.op).all fun s=>!(isDst s oi)||bit B j i)
def operB (dy:List (Nat×Nat)) (ops:Array Oper) (B:List (List Nat)) (j:Nat) (oj:Oper):Bool :=
 ((B.getD j []).all fun i=>oj.after.toList.any fun e=>Region.binds .any e&&(e.on==i||bit B e.on i)) &&
 ((oj.after.toList.all fun e=>!(Region.binds .any e)||decide (e.on < j)) &&
 (List.range ops.size).all fun i=>match ops[i]? with
  | none=>true
  | some oi=>pairB dy ops B j oj i oi)
def ordB (dy:List (Nat×Nat)) (ops:Array Oper) (B:List (List Nat)):Bool :=
 (List.range ops.size).all fun j=>match ops[j]? with
  | none=>true
  | some oj=>operB dy ops B j oj
def fitB (n:Nat) (ops:List Oper):Bool:=ops.all fun o=>match o.dst with
 | some d=>decide (d < n)
 | none=>true
def codeB (dy:Nat→List (Nat×Nat)) (n:Nat):Code→Bool
 | .region id ops draw=>fitB n ops.toList&&(!draw||ordB (dy id) ops (closeB [] ops.toList))
 | .seq a b=>codeB dy n a&&codeB dy n b
 | .cond _ a b=>codeB dy n a&&codeB dy n b
 | .block _ c=>codeB dy n c
 | .loop c=>codeB dy n c
 | _=>true
def goodB (P:Program) (dyn:Nat→Nat→List (Nat×Nat)) (f:Nat):Bool :=
 match P.funcs[f]? with
 | some fn=>match fn.body with
  | some c=>(fn.name == "runtime.NumGoroutine")==false&&codeB (dyn f) fn.ntmps c
  | none=>false
 | none=>false
theorem ordB_ok {dy:List (Nat×Nat)} {ops:Array Oper} {B:List (List Nat)} (h:ordB dy ops B=true):Ordered dy ops B:=by
 have one:∀ (j:Nat) (oj:Oper),ops[j]? = some oj→operB dy ops B j oj=true:=fun j oj hj=>by
  have:=List.all_eq_true.1 h j (List.mem_range.2 (Array.getElem?_eq_some_iff.1 hj).1)
  simpa only [hj] using this
 have two:∀ (i j:Nat) (oi oj:Oper),ops[i]? = some oi→ops[j]? = some oj→pairB dy ops B j oj i oi=true:=fun i j oi oj hi hj=>by
  have:=one j oj hj
  simp only [operB,Bool.and_eq_true] at this
  have:=List.all_eq_true.1 this.2.2 i (List.mem_range.2 (Array.getElem?_eq_some_iff.1 hi).1)
  simpa only [hi] using this
 refine ⟨?_,?_,?_,?_,?_⟩
 ·intro j o hj i hb
  have:=one j o hj
  simp only [operB,Bool.and_eq_true] at this
  have h1:=List.all_eq_true.1 this.1 i (by simpa [bit] using hb)
  obtain ⟨e,he,h2⟩:=List.any_eq_true.1 h1
  simp only [Bool.and_eq_true,Bool.or_eq_true,beq_iff_eq] at h2
  exact ⟨e,by simpa using he,h2.1,h2.2⟩
 ·intro i j oi oj hij hi hj
  have:=two i j oi oj hi hj
  simp only [pairB,Bool.and_eq_true,Bool.or_eq_true,Bool.not_eq_true',decide_eq_false_iff_not] at this
  rcases this.1 with h1 | h1
  ·exact absurd hij h1
  ·exact h1
 ·intro i j oi oj d hi hj hd hd'
  have:=two i j oi oj hi hj
  simp only [pairB,Bool.and_eq_true] at this
  have h1:=this.2.1
  simp only [sameDst,hd,hd',Bool.or_eq_true,Bool.not_eq_true',beq_self_eq_true,Bool.true_eq_false,false_or,beq_iff_eq] at h1
  exact h1
 ·intro j o hj s hs k ok hk hd
  have:=two k j ok o hk hj
  simp only [pairB,Bool.and_eq_true] at this
  have h1:=List.all_eq_true.1 this.2.2 s hs
  simpa [isDst,hd] using h1
 ·intro j o hj e he hb
  have:=one j o hj
  simp only [operB,Bool.and_eq_true] at this
  have h1:=List.all_eq_true.1 this.2.1 e (by simpa using he)
  simpa [hb] using h1
theorem fitB_ok {n:Nat} {ops:Array Oper} (h:fitB n ops.toList=true):OpsFit n ops:=fun i o ho d hd=>by
 have:=List.all_eq_true.1 h o (by simpa using Array.mem_of_getElem? ho)
 simpa [hd] using this
theorem codeB_ok {C:Cfg} {f n:Nat}:∀ c:Code,codeB (C.dyn f) n c=true→CodeOk C f n c
 | .region id ops draw,h=>by
  simp only [codeB,Bool.and_eq_true,Bool.or_eq_true,Bool.not_eq_true'] at h
  refine ⟨fitB_ok h.1,fun hd=>?_⟩
  subst hd
  exact ⟨_,ordB_ok (h.2.resolve_left (by simp))⟩
 | .seq a b,h=>by
  simp only [codeB,Bool.and_eq_true] at h
  exact ⟨codeB_ok a h.1,codeB_ok b h.2⟩
 | .cond _ a b,h=>by
  simp only [codeB,Bool.and_eq_true] at h
  exact ⟨codeB_ok a h.1,codeB_ok b h.2⟩
 | .block _ c,h=>codeB_ok c h
 | .loop c,h=>codeB_ok c h
 | .skip,_=>trivial
 | .rangeFunc _ _ _ _,_=>trivial
 | .exit _,_=>trivial
 | .scope _,_=>trivial
 | .label _,_=>trivial
 | .goto _,_=>trivial
 | .ret,_=>trivial
 | .refuse _,_=>trivial
theorem goodB_ok {C:Cfg} {f:Nat} (h:goodB C.P C.dyn f=true):GoodF C f:=by
 unfold goodB at h
 split at h
 ·rename_i fn hfn
  split at h
  ·rename_i c hc
   simp only [Bool.and_eq_true,beq_iff_eq] at h
   exact ⟨fn,c,hfn,hc,h.1,codeB_ok c h.2⟩
  ·simp at h
 ·simp at h
section
variable {C:Cfg} {F:Tk→Res}
theorem R_call {f:Nat} {args:List AV} {h:Heap} {fn:Func} {c:Code} (hp:C.prim f args=none) (hp2:C.primH f args h=none) (hg:C.good f=true) (ho:C.ownA f=[]) (hf:C.P.funcs[f]? = some fn) (hb:fn.body=some c) :
  R C (.call f args h)=R C (.run f h.length [.code c] (entry 0 args) h):=by
 rw [R_eq]
 simp only [stepT,hp,hp2,hg,ho,if_true,hf,enter,hb,ownedB]
theorem R_callO {f:Nat} {args:List AV} {h:Heap} {fn:Func} {c:Code} {os:List (Nat×Nat×TypeId)} (hp:C.prim f args=none) (hp2:C.primH f args h=none) (hg:C.good f=true) (ho:C.ownA f=os) (hf:C.P.funcs[f]? = some fn) (hb:fn.body=some c) :
  R C (.call f args h)=R C (.run f (ownedB (entry 0 args) h os).length [.code c] (entry 0 args) (ownedB (entry 0 args) h os)):=by
 rw [R_eq]
 simp only [stepT,hp,hp2,hg,ho,if_true,hf,enter,hb]
theorem R_primH {f:Nat} {args:List AV} {h h':Heap} {v:AV} (hp:C.prim f args=none) (hp2:C.primH f args h=some (v,h')):R C (.call f args h)=some (v,h'):=by
 rw [R_eq]
 simp only [stepT,hp,hp2]
theorem R_prim {f:Nat} {args:List AV} {v:AV} (hp:C.prim f args=some v):R C (.call f args [])=some (v,[]):=by
 rw [R_eq]
 simp only [stepT,hp]
theorem R_skip {f k:Nat} {ks:List It} {fr:Fr} {h:Heap}:R C (.run f k (.code .skip::ks) fr h)=R C (.run f k ks fr h):=by rw [R_eq];rfl
theorem R_seq {f k:Nat} {a b:Code} {ks:List It} {fr:Fr} {h:Heap}:R C (.run f k (.code (.seq a b)::ks) fr h)=R C (.run f k (.code a::.code b::ks) fr h):=by rw [R_eq];rfl
theorem R_region {f k id:Nat} {ops:List Oper} {ks:List It} {fr:Fr} {h:Heap}:R C (.run f k (.code (.region id ops.toArray false)::ks) fr h)=onReg (R C) f k (pstOf id ks (C.post f)) (aOps C (R C) ops ops fr h):=by rw [R_eq];rfl
theorem R_draw {f k id:Nat} {ops:List Oper} {ks:List It} {fr:Fr} {h:Heap}:R C (.run f k (.code (.region id ops.toArray true)::ks) fr h)=onReg (R C) f k (pstOf id ks (C.post f)) (shutD (C.dyn f id) (aOpsD C (R C) (C.dyn f id) (plOf h.length ops) ops 0 ops fr (h++List.replicate (numA ops) .hole))):=by rw [R_eq];rfl
noncomputable def popR (C:Cfg) (f k:Nat) (ks:List It) (c:List Pop) (fr:Fr) (h:Heap):Res:=R C (.run f k ks (pops k c fr h).1 (pops k c fr h).2)
noncomputable def popP (C:Cfg) (f k:Nat) (ks:List It) (c:List Pop) (p:Fr×Heap):Res:=popR C f k ks c p.1 p.2
theorem R_pst {f k:Nat} {l:List Nat} {c:List Pop} {ks:List It} {fr:Fr} {h:Heap}:R C (.run f k (.pst l c::ks) fr h)=popR C f k ks c (restr fr l) h:=by rw [R_eq];rfl
theorem popR_nil {f k:Nat} {ks:List It} {fr:Fr} {h:Heap}:popR C f k ks [] fr h=R C (.run f k ks fr h):=rfl
theorem popR_cell {f k i d:Nat} {r:List Pop} {ks:List It} {fr:Fr} {h:Heap}:popR C f k ks (.cell i d::r) fr h=popR C f k ks r fr (frzC k fr i d h):=rfl
theorem popR_row {f k i d j c:Nat} {r:List Pop} {ks:List It} {fr:Fr} {h:Heap}:popR C f k ks (.row i d j c::r) fr h=popR C f k ks r fr (frzR k fr h j c (ownAt fr h i d)):=rfl
theorem popR_new {f k i d c z:Nat} {q:Bool} {r:List Pop} {ks:List It} {fr:Fr} {h:Heap}:popR C f k ks (.new i d c z q::r) fr h=popR C f k ks r fr (newR h c z q (ownAt fr h i d)):=rfl
theorem popR_tidy {f k:Nat} {r:List Pop} {ks:List It} {fr:Fr} {h:Heap}:popR C f k ks (.tidy::r) fr h=popP C f k ks r (tidy k fr h):=rfl
theorem popR_whenF {f k i:Nat} {r:List Pop} {ks:List It} {fr:Fr} {h:Heap}:popR C f k ks (.whenF i::r) fr h=if isF (get fr i)=true then popR C f k ks r fr h else R C (.run f k ks fr h):=by
 unfold popR
 simp only [pops]
 split<;>rfl
theorem popR_whenN {f k i d c:Nat} {r:List Pop} {ks:List It} {fr:Fr} {h:Heap}:popR C f k ks (.whenN i d c::r) fr h=if lastN h c (ownAt fr h i d)=true then popR C f k ks r fr h else R C (.run f k ks fr h):=by
 unfold popR
 simp only [pops]
 split<;>rfl
theorem popR_whenT {f k i:Nat} {r:List Pop} {ks:List It} {fr:Fr} {h:Heap}:popR C f k ks (.whenT i::r) fr h=if isT (get fr i)=true then popR C f k ks r fr h else R C (.run f k ks fr h):=by
 unfold popR
 simp only [pops]
 split<;>rfl
theorem popR_opt {f k i c:Nat} {r:List Pop} {ks:List It} {fr:Fr} {h:Heap}:popR C f k ks (.opt i c::r) fr h=popR C f k ks r fr (frzO k fr h i c):=rfl
theorem popR_keep {f k:Nat} {l:List Nat} {r:List Pop} {ks:List It} {fr:Fr} {h:Heap}:popR C f k ks (.keep l::r) fr h=popR C f k ks r (restr fr l) h:=rfl
theorem popR_inner {f k i d j c c2:Nat} {r:List Pop} {ks:List It} {fr:Fr} {h:Heap}:popR C f k ks (.inner i d j c c2::r) fr h=popR C f k ks r fr (frzI k fr c2 (ownIn h j c (ownAt fr h i d)) (lenO (ownIn h j c (ownAt fr h i d))) h):=rfl
theorem popP_mk {f k:Nat} {r:List Pop} {ks:List It} {fr:Fr} {h:Heap}:popP C f k ks r (fr,h)=popR C f k ks r fr h:=rfl
theorem R_cond {f k:Nat} {x:Operand} {a b:Code} {ks:List It} {fr:Fr} {h:Heap}:R C (.run f k (.code (.cond x a b)::ks) fr h)=onCond (R C) f k ks a b fr h (ev fr x):=by rw [R_eq];rfl
theorem R_block {f k id:Nat} {c:Code} {ks:List It} {fr:Fr} {h:Heap}:R C (.run f k (.code (.block id c)::ks) fr h)=onBlock C (R C) f k ks id fr h c (C.live f id):=by rw [R_eq];rfl
theorem R_exit {f k id:Nat} {ks:List It} {fr:Fr} {h:Heap}:R C (.run f k (.code (.exit id)::ks) fr h)=onUnw (R C) f k fr h (C.out f id) (unwind id ks):=by rw [R_eq];rfl
theorem R_ret {f k:Nat} {ks:List It} {fr:Fr} {h:Heap}:R C (.run f k (.code .ret::ks) fr h)=retOf C f k fr h:=by rw [R_eq];rfl
theorem R_end {f k:Nat} {fr:Fr} {h:Heap}:R C (.run f k [] fr h)=retOf C f k fr h:=by rw [R_eq];rfl
theorem R_blk {f k id n:Nat} {ks:List It} {fr:Fr} {h:Heap}:R C (.run f k (.blk id n::ks) fr h)=outOf (R C) f k ks n fr h (C.out f id):=by rw [R_eq];rfl
theorem outOf_none {f k n:Nat} {ks:List It} {fr:Fr} {h:Heap}:outOf F f k ks n fr h none=F (.run f k ks fr h):=rfl
theorem R_lp {f k n:Nat} {c:Code} {live:List Nat×List Nat} {ks:List It} {fr:Fr} {h:Heap}:R C (.run f k (.lp c (some live) n::ks) fr h)=onRound (R C) f k ks c live n fr h:=by rw [R_eq];rfl
theorem onUnw_some {f k n:Nat} {ks:List It} {fr:Fr} {h:Heap} {o:Option (List Nat)}:onUnw F f k fr h o (some (n,ks))=outOf F f k ks n fr h o:=rfl
theorem onCond_true {f k:Nat} {ks:List It} {a b:Code} {fr:Fr} {h:Heap}:onCond F f k ks a b fr h (.bool true)=F (.run f k (.code a::ks) fr h):=rfl
theorem onCond_false {f k:Nat} {ks:List It} {a b:Code} {fr:Fr} {h:Heap}:onCond F f k ks a b fr h (.bool false)=F (.run f k (.code b::ks) fr h):=rfl
theorem get_eq (i:Nat) (v:AV) (fr:Fr):get ((i,v)::fr) i=v:=by simp [get]
theorem get_ne (i j:Nat) (v:AV) (fr:Fr) (h:(j==i)=false):get ((j,v)::fr) i=get fr i:=by simp [get,by simpa using h]
theorem put_some (fr:Fr) (d:Nat) (v:AV):put fr (some d) v=(d,v)::fr:=rfl
theorem put_none (fr:Fr) (v:AV):put fr none v=fr:=rfl
theorem ev_tmp (fr:Fr) (t:Nat):ev fr (.tmp t)=get fr t:=rfl
theorem ev_const (fr:Fr) (v:Value):ev fr (.const v)=ofVal v:=rfl
theorem ev_func (fr:Fr) (f:Nat):ev fr (.func f)=.fn f []:=rfl
end
section
variable {Bs:World→Prop}
theorem below_ext {μ:Mp Bs} {w w':World} (h:RowKit.Below w.heap.size w w'):Ext μ [] w μ [] w' where
 out:=rfl
 still:=rfl
 os:=h.os
 tape:=h.tape
 output:=h.output
 size:=h.size
 len:=Nat.le_refl _
 maps:=fun l es hl=>by simp at hl
 keep:=fun b o v hc hm=>by
  refine ⟨?_,hm⟩
  have:=h.block b (cell_lt hc)
  simp only [World.cell?] at hc ⊢
  rw [this];exact hc
 outside:=fun b hb ho=>⟨h.block b hb,ho⟩
 cells:=fun l cs hl=>by simp at hl
 rows:=fun l z rs wr hl=>by simp at hl
 sizes:=fun b vs T hb=>⟨vs,hb.eq (h.block b hb.lt),rfl⟩
theorem prim_of {P:Program} {g:FuncId} {args:List AV} {r:AV} {vs0:List Value} {v:Value} (ha:∀ (M:Nat→Nat→Prop) (w:World) (vs:List Value),PRepL M w args vs→vs=vs0) (hr:∀ (M:Nat→Nat→Prop) (w:World),PRep M w r v)
  (hc:∀ w,Bs w→Calls P g vs0.toArray w fun e w'=>e=.returned v∧RowKit.Below w.heap.size w w'):Called Bs P g args [] r []:=by
 intro μ w vs hrel hargs
 have:=ha _ w vs (RepL.no_own _ _ hargs)
 subst this
 refine (hc w (hrel.base w fun _ _=>rfl)).mono ?_
 rintro e w' ⟨rfl,hb⟩
 have ex:=below_ext (μ:=μ) hb
 exact ⟨v,μ,rfl,hrel.ext_same ex (fun l b hl=>by simp at hl),ex,Rep.pure _ _ (hr _ _)⟩
theorem prim_at {P:Program} {g:FuncId} {args:List AV} {r:AV} {vs0:List Value} (ha:∀ (M:Nat→Nat→Prop) (w:World) (vs:List Value),PRepL M w args vs→vs=vs0)
  (hc:∀ w,Bs w→Calls P g vs0.toArray w fun e w'=>∃ v,e=.returned v∧RowKit.Below w.heap.size w w'∧∀ M:Nat→Nat→Prop,(∀ b o,M b o→b < w.heap.size)→PRep M w' r v):Called Bs P g args [] r []:=by
 intro μ w vs hrel hargs
 have:=ha _ w vs (RepL.no_own _ _ hargs)
 subst this
 refine (hc w (hrel.base w fun _ _=>rfl)).mono ?_
 rintro e w' ⟨v,rfl,hb,hr⟩
 have ex:=below_ext (μ:=μ) hb
 refine ⟨v,μ,rfl,hrel.ext_same ex (fun l b hl=>by simp at hl),ex,Rep.pure _ _ (hr _ fun b o hm=>?_)⟩
 rcases hm with ho | ⟨l,k,hl,_⟩
 ·exact hrel.old b o ho
 ·simp at hl
theorem below_refl (w:World):RowKit.Below w.heap.size w w:=RowKit.Below.refl _ _
theorem below_drewN (w:World) (n:Nat):RowKit.Below w.heap.size w (w.drewN n):=⟨rfl,rfl,rfl,Nat.le_refl _,fun _ _=>rfl⟩
end
def goS (C:Cfg) (F:Tk→Res) (md:Option (List (Nat×Nat)×(Nat→Nat))) (i:Nat) (fr:Fr) (h:Heap) (o:Op):Option (AV×Heap) :=
 match md with
 | none=>stepO C F (ev fr) h o
 | some (dy,pl)=>stepQ C F dy pl i (ev fr) h o
def goT (md:Option (List (Nat×Nat)×(Nat→Nat))) (i:Nat) (fr:Fr) (h:Heap) (o:Op):List Nat :=
 match md with
 | none=>[]
 | some ([],_)=>[]
 | some (dy,pl)=>touchesQ (pl 0) dy i (ev fr) h o
def goA (md:Option (List (Nat×Nat)×(Nat→Nat))) (i:Nat) (h h':Heap) (T:List Nat) (acc:List (Nat×List Nat)):List (Nat×List Nat) :=
 match md with
 | none=>[]
 | some ([],_)=>[]
 | some (_::_,_)=>(i,chg h h' T)::acc
def goE (F:Tk→Res) (md:Option (List (Nat×Nat)×(Nat→Nat))) (f k:Nat) (ks:List It) (fr:Fr) (h:Heap) (acc:List (Nat×List Nat)):Res :=
 match md with
 | none=>F (.run f k ks fr h)
 | some (dy,_)=>if clearAll dy fr acc=true then F (.run f k ks fr h) else none
def go (C:Cfg) (F:Tk→Res) (md:Option (List (Nat×Nat)×(Nat→Nat))) (all:List Oper) (f k:Nat) (ks:List It):Nat→List Oper→Fr→Heap→List (Nat×List Nat)→Res
 | _,[],fr,h,acc=>goE F md f k ks fr h acc
 | i,o::rest,fr,h,acc=>match o.guard with
  | none=>(match goS C F md i fr h o.op with
   | some (v,h')=>go C F md all f k ks (i+1) rest (put fr o.dst v) h' (goA md i h h' (goT md i fr h o.op) acc)
   | none=>none)
  | some (j,want)=>match getO fr (slotOf all j) with
   | .bool b=>if b=want then (match goS C F md i fr h o.op with
     | some (v,h')=>go C F md all f k ks (i+1) rest (put fr o.dst v) h' (goA md i h h' (goT md i fr h o.op) acc)
     | none=>none) else go C F md all f k ks (i+1) rest (put fr o.dst (.tup [])) h acc
   | .tup []=>go C F md all f k ks (i+1) rest (put fr o.dst (.tup [])) h acc
   | _=>none
def goN (C:Cfg) (F:Tk→Res) (md:Option (List (Nat×Nat)×(Nat→Nat))) (all:List Oper) (f k:Nat) (ks:List It) (i:Nat) (rest:List Oper) (fr:Fr) (h:Heap) (T:List Nat) (acc:List (Nat×List Nat)) (d:Option Nat):Option (AV×Heap)→Res
 | some (v,h')=>go C F md all f k ks (i+1) rest (put fr d v) h' (goA md i h h' T acc)
 | none=>none
def goG (C:Cfg) (F:Tk→Res) (md:Option (List (Nat×Nat)×(Nat→Nat))) (all:List Oper) (f k:Nat) (ks:List It) (i:Nat) (rest:List Oper) (fr:Fr) (h:Heap) (acc:List (Nat×List Nat)) (d:Option Nat) (op:Op) (want:Bool):AV→Res
 | .bool b=>if b=want then goN C F md all f k ks i rest fr h (goT md i fr h op) acc d (goS C F md i fr h op) else go C F md all f k ks (i+1) rest (put fr d (.tup [])) h acc
 | .tup []=>go C F md all f k ks (i+1) rest (put fr d (.tup [])) h acc
 | _=>none
section
variable {C:Cfg} {F:Tk→Res}
theorem go_fixed {all:List Oper} {f k:Nat} {ks:List It}:∀ (l:List Oper) (i:Nat) (fr:Fr) (h:Heap) (acc:List (Nat×List Nat)),go C F none all f k ks i l fr h acc=onReg F f k ks (aOps C F all l fr h)
 | [],_,_,_,_=>rfl
 | o::l,i,fr,h,acc=>by
  have step:(match goS C F none i fr h o.op with
   | some (v,h')=>go C F none all f k ks (i+1) l (put fr o.dst v) h' (goA none i h h' (goT none i fr h o.op) acc)
   | none=>none)=onReg F f k ks (match stepO C F (ev fr) h o.op with
    | some (v,h)=>aOps C F all l (put fr o.dst v) h
    | none=>none):=by
   simp only [goS]
   cases stepO C F (ev fr) h o.op with
   | none=>rfl
   | some p=>exact go_fixed l _ _ _ _
  cases hg:o.guard with
  | none=>simp only [go,aOps,hg];exact step
  | some jw =>
   obtain ⟨j,want⟩:=jw
   simp only [go,aOps,hg]
   cases hv:getO fr (slotOf all j) with
   | bool b =>
    simp only
    by_cases hb:b=want
    ·simp only [hb,if_true];exact step
    ·simp only [hb,if_false];exact go_fixed l _ _ _ _
   | tup l' =>
    cases l' with
    | nil=>exact go_fixed l _ _ _ _
    | cons _ _=>rfl
   | _=>rfl
theorem clearAll_nil (fr:Fr):∀ l,clearAll [] fr l=true
 | []=>rfl
 | (i,w)::r=>by simp only [clearAll,clears,clearAll_nil fr r];rfl
def shutAcc (dy:List (Nat×Nat)) (acc:List (Nat×List Nat)):Option (Fr×Heap×List (Nat×List Nat))→Option (Fr×Heap)
 | some (fr,h,l)=>if clearAll dy fr l=true∧clearAll dy fr acc=true then some (fr,h) else none
 | none=>none
theorem go_open {dy:List (Nat×Nat)} {pl:Nat→Nat} {all:List Oper} {f k:Nat} {ks:List It}:∀ (l:List Oper) (i:Nat) (fr:Fr) (h:Heap) (acc:List (Nat×List Nat)),
  go C F (some (dy,pl)) all f k ks i l fr h acc=onReg F f k ks (shutAcc dy acc (aOpsD C F dy pl all i l fr h))
 | [],i,fr,h,acc=>by
  simp only [go,goE,aOpsD,shutAcc,clearAll,true_and]
  split<;>rfl
 | o::l,i,fr,h,acc=>by
  have step:(match goS C F (some (dy,pl)) i fr h o.op with
   | some (v,h')=>go C F (some (dy,pl)) all f k ks (i+1) l (put fr o.dst v) h' (goA (some (dy,pl)) i h h' (goT (some (dy,pl)) i fr h o.op) acc)
   | none=>none)=onReg F f k ks (shutAcc dy acc (match stepQ C F dy pl i (ev fr) h o.op with
    | some (v,h')=>match aOpsD C F dy pl all (i+1) l (put fr o.dst v) h' with
     | some (fr',h'',l)=>some (fr',h'',(i,chg h h' (touchesQ (pl 0) dy i (ev fr) h o.op))::l)
     | none=>none
    | none=>none)):=by
   simp only [goS]
   cases stepQ C F dy pl i (ev fr) h o.op with
   | none=>rfl
   | some p =>
    obtain ⟨v,h'⟩:=p
    simp only
    rw [go_open l (i+1) _ h' _]
    cases hA:aOpsD C F dy pl all (i+1) l (put fr o.dst v) h' with
    | none=>rfl
    | some q =>
     obtain ⟨fr',h'',l'⟩:=q
     congr 1
     cases dy with
     | nil=>simp only [shutAcc,clearAll_nil,and_self,if_true]
     | cons d dy =>
      simp only [shutAcc,goA,goT,clearAll,Bool.and_eq_true]
      congr 1
      simp only [eq_iff_iff]
      constructor
      ·rintro ⟨a,b,c⟩;exact ⟨⟨b,a⟩,c⟩
      ·rintro ⟨⟨b,a⟩,c⟩;exact ⟨a,b,c⟩
  cases hg:o.guard with
  | none=>simp only [go,aOpsD,hg];exact step
  | some jw =>
   obtain ⟨j,want⟩:=jw
   simp only [go,aOpsD,hg]
   cases hv:getO fr (slotOf all j) with
   | bool b =>
    simp only
    by_cases hb:b=want
    ·simp only [hb,if_true];exact step
    ·simp only [hb,if_false];exact go_open l _ _ _ _
   | tup l' =>
    cases l' with
    | nil=>exact go_open l _ _ _ _
    | cons _ _=>rfl
   | _=>rfl
theorem shut_acc {dy:List (Nat×Nat)} (x:Option (Fr×Heap×List (Nat×List Nat))):shutAcc dy [] x=shutD dy x:=by
 cases x with
 | none=>rfl
 | some p=>obtain ⟨fr,h,l⟩:=p;simp [shutAcc,shutD,clearAll]
end
section
variable {C:Cfg} {f k id:Nat} {ks:List It} {fr:Fr} {h:Heap} {ops:List Oper}
@[go_sem] theorem R_reg:R C (.run f k (.code (.region id ops.toArray false)::ks) fr h)=go C (R C) none ops f k (pstOf id ks (C.post f)) 0 ops fr h []:=by
 rw [R_region,go_fixed]
@[go_sem] theorem R_dreg:R C (.run f k (.code (.region id ops.toArray true)::ks) fr h)=go C (R C) (some (C.dyn f id,plOf h.length ops)) ops f k (pstOf id ks (C.post f)) 0 ops fr (h++List.replicate (numA ops) .hole) []:=by
 rw [R_draw,go_open,shut_acc]
end
section
variable {C:Cfg} {F:Tk→Res} {md:Option (List (Nat×Nat)×(Nat→Nat))} {all rest:List Oper} {f k i:Nat} {ks:List It} {fr:Fr} {h:Heap} {acc:List (Nat×List Nat)} {d:Option Tmp} {op:Op} {t:TypeId} {p:String} {ed:Array Edge}
@[go_sem] theorem go_nil:go C F md all f k ks i [] fr h acc=goE F md f k ks fr h acc:=rfl
@[go_sem] theorem go_cons:go C F md all f k ks i (⟨d,op,t,p,ed,none⟩::rest) fr h acc=goN C F md all f k ks i rest fr h (goT md i fr h op) acc d (goS C F md i fr h op):=by
 simp only [go]
 generalize goS C F md i fr h op=v
 cases v<;>rfl
@[go_sem] theorem go_guard {j:Nat} {want:Bool}:go C F md all f k ks i (⟨d,op,t,p,ed,some (j,want)⟩::rest) fr h acc=goG C F md all f k ks i rest fr h acc d op want (getO fr (slotOf all j)):=by
 simp only [go]
 generalize getO fr (slotOf all j)=v
 cases v with
 | bool b =>
  simp only [goG]
  generalize goS C F md i fr h op=s
  cases s<;>rfl
 | tup l=>cases l<;>rfl
 | _=>rfl
@[go_sem] theorem goN_some {h':Heap} {T:List Nat} {v:AV}:goN C F md all f k ks i rest fr h T acc d (some (v,h'))=go C F md all f k ks (i+1) rest (put fr d v) h' (goA md i h h' T acc):=rfl
@[go_sem] theorem goG_tt:goG C F md all f k ks i rest fr h acc d op true (.bool true)=goN C F md all f k ks i rest fr h (goT md i fr h op) acc d (goS C F md i fr h op):=rfl
@[go_sem] theorem goG_tf:goG C F md all f k ks i rest fr h acc d op true (.bool false)=go C F md all f k ks (i+1) rest (put fr d (.tup [])) h acc:=rfl
@[go_sem] theorem goG_ft:goG C F md all f k ks i rest fr h acc d op false (.bool true)=go C F md all f k ks (i+1) rest (put fr d (.tup [])) h acc:=rfl
@[go_sem] theorem goG_ff:goG C F md all f k ks i rest fr h acc d op false (.bool false)=goN C F md all f k ks i rest fr h (goT md i fr h op) acc d (goS C F md i fr h op):=rfl
theorem split_yes {b:Bool} {r:Res} (h1:b=true→goN C F md all f k ks i rest fr h (goT md i fr h op) acc d (goS C F md i fr h op)=r) (h2:b=false→go C F md all f k ks (i+1) rest (put fr d (.tup [])) h acc=r):goG C F md all f k ks i rest fr h acc d op true (.bool b)=r:=by
 cases b
 ·exact h2 rfl
 ·exact h1 rfl
theorem split_no {b:Bool} {r:Res} (h1:b=true→go C F md all f k ks (i+1) rest (put fr d (.tup [])) h acc=r) (h2:b=false→goN C F md all f k ks i rest fr h (goT md i fr h op) acc d (goS C F md i fr h op)=r):goG C F md all f k ks i rest fr h acc d op false (.bool b)=r:=by
 cases b
 ·exact h2 rfl
 ·exact h1 rfl
theorem split_cond {a b:Code} {t:Bool} {r:Res} (h1:t=true→F (.run f k (.code a::ks) fr h)=r) (h2:t=false→F (.run f k (.code b::ks) fr h)=r):onCond F f k ks a b fr h (.bool t)=r:=by
 cases t
 ·exact h2 rfl
 ·exact h1 rfl
@[go_sem] theorem goG_out {want:Bool}:goG C F md all f k ks i rest fr h acc d op want (.tup [])=go C F md all f k ks (i+1) rest (put fr d (.tup [])) h acc:=rfl
@[go_sem] theorem goE_fixed:goE F none f k ks fr h acc=F (.run f k ks fr h):=rfl
@[go_sem] theorem goE_open {pl:Nat→Nat}:goE F (some ([],pl)) f k ks fr h acc=F (.run f k ks fr h):=by simp only [goE,clearAll_nil,if_true]
@[go_sem] theorem goE_dy {a:Nat×Nat} {dy:List (Nat×Nat)} {pl:Nat→Nat}:goE F (some (a::dy,pl)) f k ks fr h acc=if clearAll (a::dy) fr acc=true then F (.run f k ks fr h) else none:=rfl
@[go_sem] theorem goT_fixed:goT none i fr h op=[]:=rfl
@[go_sem] theorem goT_open {pl:Nat→Nat}:goT (some ([],pl)) i fr h op=[]:=rfl
@[go_sem] theorem goT_dy {a:Nat×Nat} {dy:List (Nat×Nat)} {pl:Nat→Nat}:goT (some (a::dy,pl)) i fr h op=touchesQ (pl 0) (a::dy) i (ev fr) h op:=rfl
@[go_sem] theorem goA_fixed {h':Heap} {T:List Nat}:goA none i h h' T acc=[]:=rfl
@[go_sem] theorem goA_open {pl:Nat→Nat} {h':Heap} {T:List Nat}:goA (some ([],pl)) i h h' T acc=[]:=rfl
@[go_sem] theorem goA_dy {a:Nat×Nat} {dy:List (Nat×Nat)} {pl:Nat→Nat} {h':Heap} {T:List Nat}:goA (some (a::dy,pl)) i h h' T acc=(i,chg h h' T)::acc:=rfl
@[go_sem] theorem goS_fixed:goS C F none i fr h op=stepO C F (ev fr) h op:=rfl
@[go_sem] theorem goS_open {dy:List (Nat×Nat)} {pl:Nat→Nat}:goS C F (some (dy,pl)) i fr h op=stepQ C F dy pl i (ev fr) h op:=rfl
end
noncomputable def RL (C:Cfg) (t:Tk):Res:=R C t
theorem RL_eq (C:Cfg) (t:Tk):RL C t=R C t:=rfl
noncomputable def onBlockL (C:Cfg) (f k:Nat) (ks:List It) (id:Nat) (b:Code) (fr:Fr) (h:Heap):Option (List Nat×List (Nat×Option Nat×Nat×Bool)×List Nat)→Res
 | some (live,os,fz)=>onLoop (RL C) f k ks id b (live,fz) (frz k live fz (restr (owned fr h os).1 live) (owned fr h os).2)
 | none=>R C (.run f k (.code (.loop b)::.blk id h.length::ks) fr h)
section
variable {C:Cfg} {f k id n:Nat} {ks:List It} {fr:Fr} {h:Heap} {a b:Code}
@[go_sem] theorem R_loop_in:R C (.run f k (.code (.block id (.loop b))::ks) fr h)=onBlockL C f k ks id b fr h (C.live f id):=by
 rw [R_block]
 cases C.live f id with
 | none=>rfl
 | some p=>rfl
@[go_sem] theorem onBlockL_some {live:List Nat} {os:List (Nat×Option Nat×Nat×Bool)} {fz:List Nat}:onBlockL C f k ks id b fr h (some (live,os,fz))=onLoop (RL C) f k ks id b (live,fz) (frz k live fz (restr (owned fr h os).1 live) (owned fr h os).2):=rfl
@[go_sem] theorem R_turn {live:List Nat×List Nat}:R C (.run f k (.lp b (some live) n::ks) fr h)=onRound (RL C) f k ks b live n fr h:=R_lp
theorem R_blk_in (hc:∀ x,a≠.loop x):R C (.run f k (.code (.block id a)::ks) fr h)=R C (.run f k (.code a::.blk id h.length::ks) fr h):=by
 rw [R_block]
 unfold onBlock
 split
 ·split
  ·rename_i x;exact absurd rfl (hc x)
  ·rfl
 ·rfl
@[go_sem] theorem R_blk_seq:R C (.run f k (.code (.block id (.seq a b))::ks) fr h)=R C (.run f k (.code (.seq a b)::.blk id h.length::ks) fr h):=R_blk_in (by simp)
@[go_sem] theorem R_blk_cond {x:Operand}:R C (.run f k (.code (.block id (.cond x a b))::ks) fr h)=R C (.run f k (.code (.cond x a b)::.blk id h.length::ks) fr h):=R_blk_in (by simp)
@[go_sem] theorem R_blk_region {i:Nat} {ops:Array Oper} {d:Bool}:R C (.run f k (.code (.block id (.region i ops d))::ks) fr h)=R C (.run f k (.code (.region i ops d)::.blk id h.length::ks) fr h):=R_blk_in (by simp)
@[go_sem] theorem R_blk_skip:R C (.run f k (.code (.block id .skip)::ks) fr h)=R C (.run f k (.code .skip::.blk id h.length::ks) fr h):=R_blk_in (by simp)
@[go_sem] theorem R_blk_ret:R C (.run f k (.code (.block id .ret)::ks) fr h)=R C (.run f k (.code .ret::.blk id h.length::ks) fr h):=R_blk_in (by simp)
@[go_sem] theorem R_blk_exit {i:Nat}:R C (.run f k (.code (.block id (.exit i))::ks) fr h)=R C (.run f k (.code (.exit i)::.blk id h.length::ks) fr h):=R_blk_in (by simp)
@[go_sem] theorem R_blk_blk {i:Nat}:R C (.run f k (.code (.block id (.block i a))::ks) fr h)=R C (.run f k (.code (.block i a)::.blk id h.length::ks) fr h):=R_blk_in (by simp)
end
section
variable {Bs:World→Prop}
def NoOk (P:Program) (no:FuncId→Bool):Prop :=
 ∀ g,no g=true→Go.Proofs.Enters P g∧∀ v1 v2 w,CallsD P g #[v1,v2] .returning w fun e u w'=>(∃ v,e=.returned v)∧u=.returning∧w'=w
def DefR (μ:Mp Bs) (h:Heap) (w:World):Option AV→List Deferred→Prop
 | none,ds=>ds=[]
 | some (.fn g caps),ds=>∃ vs:List Value,ds=[{ target:=.fn (.func g) vs.toArray,args:=#[] }]∧RepL μ h w caps vs
 | some _,_=>False
theorem DefR.ext {μ μ':Mp Bs} {h h':Heap} {w w':World} (e:Ext μ h w μ' h' w'):∀ {p:Option AV} {ds:List Deferred},DefR μ h w p ds→DefR μ' h' w' p ds
 | none,_,r=>r
 | some (.fn g caps),_,r=>by
  obtain ⟨vs,h1,h2⟩:=r
  exact ⟨vs,h1,RepL.ext e _ _ h2⟩
 | some (.int _ _),_,r=>r.elim
 | some (.bool _),_,r=>r.elim
 | some (.str _),_,r=>r.elim
 | some .nilp,_,r=>r.elim
 | some .nilf,_,r=>r.elim
 | some .nili,_,r=>r.elim
 | some .nilm,_,r=>r.elim
 | some .nils,_,r=>r.elim
 | some (.emp _),_,r=>r.elim
 | some (.rows _),_,r=>r.elim
 | some (.lit _),_,r=>r.elim
 | some (.rptr _ _),_,r=>r.elim
 | some (.agg _),_,r=>r.elim
 | some (.tup _),_,r=>r.elim
 | some (.bnd _ _),_,r=>r.elim
 | some (.iface _ _),_,r=>r.elim
 | some (.ptr _ _),_,r=>r.elim
 | some (.own _ _),_,r=>r.elim
 | some (.optr _ _ _ _),_,r=>r.elim
 | some (.mp _),_,r=>r.elim
 | some (.tptr _ _ _),_,r=>r.elim
 | some (.town _ _ _),_,r=>r.elim
 | some (.vw _ _ _ _),_,r=>r.elim
 | some .any,_,r=>r.elim
def RunsP (Bs:World→Prop) (C:Cfg) (F:Option AV→Tk→Res):Prop :=
 ∀ p f k ks fr h r h',F p (.run f k ks fr h)=some (r,h')→∀ fn,C.P.funcs[f]? = some fn→ItsOk C f fn.ntmps ks→∀ (b:Frame) (cs:List Frame) (a:Act) (μ:Mp Bs) (w:World) (μ0:Mp Bs) (h0:Heap) (w0:World),
  h0.length=k→Rel μ h w→Ext μ0 h0 w0 μ h w→FrRel μ h w fr a.tmps→fn.ntmps≤a.tmps.size→DefR μ h w p a.defers→Ran C.P fn (lone (b.at a (items ks)) cs w) b cs μ0 h0 w0 r h'
end
section
variable {Bs:World→Prop}
variable {C:Cfg} {D no:FuncId→Bool} {F:Option AV→Tk→Res} {μ μ0:Mp Bs} {h h0 h':Heap} {w w0:World}
theorem RunsP.plain (hR:RunsP Bs C F):Runs Bs C (F none):=fun f k ks fr h r h' e fn hfn hks b cs a μ w μ0 h0 w0 hk hr ex hf hn hd=>hR none f k ks fr h r h' e fn hfn hks b cs a μ w μ0 h0 w0 hk hr ex hf hn hd
theorem doDfr_sound (hC:CfgOk Bs C) (hN:NoOk C.P no) (hR:RunsP Bs C F) {p:Option AV} {h1:Heap} (e:doDfr C no (F none) h p=some h1) {b:Frame} {cs:List Frame} {a:Act} {todo:List Item} (hr:Rel μ h w) (hd:DefR μ h w p a.defers) :
  ∃ μ1 w1,Steps C.P (lone { b.at a todo with mode:=.returning } cs w) (lone { b.at { a with defers:=[] } todo with mode:=.returning } cs w1)∧Rel μ1 h1 w1∧Ext μ h w μ1 h1 w1:=by
 match p,e,hd with
 | none,e,hd =>
  simp only [doDfr,Option.some.injEq] at e
  subst e
  have:a={ a with defers:=[] }:=by
   cases a
   simp only [DefR] at hd
   simp [hd]
  rw [←this]
  exact ⟨μ,w,.refl _ _,hr,Ext.refl _ _ _⟩
 | some (.fn g caps),e,hd =>
  obtain ⟨vs,hds,hrep⟩:=hd
  have start:Go.Proofs.Enters C.P g→step C.P (lone { b.at a todo with mode:=.returning } cs w)=.next (lone (Frame.enter C.P g vs.toArray .deferred) ({ b.at { a with defers:=[] } todo with mode:=.returning }::cs) w):=fun hE=>by
   have hi:(invoke (.fn (.func g) vs.toArray) #[]).run C.P w=.ok (.enter g vs.toArray) w:=by
    simp only [invoke,Array.empty_append]
    exact hE vs.toArray w
   exact step_defer (fr:={ b.at a todo with mode:=.returning }) (cs:=cs) (d:={ target:=.fn (.func g) vs.toArray,args:=#[] }) (ds:=[]) (by simp) (by simpa [Frame.at] using hds) rfl hi
  simp only [doDfr] at e
  split at e
  ·rename_i hno
   simp only [Option.some.injEq] at e
   subst e
   obtain ⟨hE,hcall⟩:=hN g hno.1
   have hlen:=hrep.length
   obtain ⟨v1,v2,rfl⟩:∃ v1 v2,vs=[v1,v2]:=by
    match vs,(by rw [←hlen];exact hno.2:vs.length=2) with
    | [v1,v2],_=>exact ⟨v1,v2,rfl⟩
   obtain ⟨e1,u,w1,fr1,⟨⟨v,hv⟩,hu,hw⟩,hs,hk,hgo⟩:=hcall v1 v2 w { b.at { a with defers:=[] } todo with mode:=.returning } cs rfl
   subst hv hu hw
   have h2:=step_going_returned (c:={ b.at { a with defers:=[] } todo with mode:=.returning }) (cs:=cs) hk hgo
   exact ⟨μ,w1,.head (start hE) (Steps.trans hs (.one h2)),hr,Ext.refl _ _ _⟩
  ·split at e
   ·rename_i hg
    obtain ⟨fn,c,hfn,hb,hname,hok⟩:=hC.good g hg
    simp only [runDfr,hfn,hb] at e
    split at e
    ·rename_i r h2 hrun
     simp only [Option.some.injEq] at e
     subst e
     have hE:Go.Proofs.Enters C.P g:=Go.Proofs.enters_of hfn hname hb
     let b':Frame:={ (default:Frame) with fn:=g,kind:=.deferred }
     have henter:Frame.enter C.P g vs.toArray .deferred=b'.at { tmps:=vs.toArray++Array.replicate (fn.ntmps - vs.toArray.size) undef,defers:=[] } [.code c]:=by
      simp [Frame.enter,Frame.at,hfn,hb,b']
     obtain ⟨a1,todo1,w1,v,μ1,s1,s2,s3,s4,s5,s6⟩:=hR none g _ [.code c] _ _ r h2 hrun fn hfn (ItsOk.cons hok (fun _ hx=>by simp at hx)) b' ({ b.at { a with defers:=[] } todo with mode:=.returning }::cs)
      { tmps:=vs.toArray++Array.replicate (fn.ntmps - vs.toArray.size) undef,defers:=[] } μ w μ _ w rfl hr (Ext.refl _ _ _) (entry_rel (fn.ntmps) hrep) (by simp;omega) rfl
     have hgo:({ b'.at a1 todo1 with mode:=.returning }:Frame).going C.P w1 (.returned v):=⟨rfl,s2,fn,hfn,s3⟩
     have h2:=step_going_returned (c:={ b.at { a with defers:=[] } todo with mode:=.returning }) (cs:=cs) (fr:={ b'.at a1 todo1 with mode:=.returning }) rfl hgo
     refine ⟨μ1,w1,.head (start hE) (Steps.trans ?_ (.one h2)),s4,s5⟩
     rw [henter]
     exact s1
    ·simp at e
   ·simp at e
theorem retP_sound (hC:CfgOk Bs C) (hN:NoOk C.P no) (hR:RunsP Bs C F) {p:Option AV} {f k:Nat} {fr:Fr} {r:AV} {fn:Func} {b:Frame} {cs:List Frame} {a:Act} {todo:List Item} (hfn:C.P.funcs[f]? = some fn) (e:retP C f k fr (doDfr C no (F none) h p)=some (r,h')) (hk:h0.length=k) (hr:Rel μ h w) (ex:Ext μ0 h0 w0 μ h w) (hf:FrRel μ h w fr a.tmps) (hd:DefR μ h w p a.defers) :
  Ran C.P fn (lone { b.at a todo with mode:=.returning } cs w) b cs μ0 h0 w0 r h':=by
 unfold retP at e
 split at e
 ·rename_i h1 hdo
  obtain ⟨μ1,w1,s1,s2,s3⟩:=doDfr_sound (b:=b) (cs:=cs) (a:=a) (todo:=todo) hC hN hR hdo hr hd
  exact Ran.of_steps s1 (ret_sound (a:={ a with defers:=[] }) hfn e hk s2 (ex.trans s3) (FrRel.ext s3 hf) rfl)
 ·simp at e
theorem dfrOf_some {ops:List Oper} {s g:Nat} {caps:Array Operand} (e:dfrOf ops=some (s,g,caps)):∃ o1 o2 c,ops=[o1,o2]∧o1.dst=some s∧o1.op=.makeFunc (.func g) #[] caps∧o1.guard=none∧o2.dst=none∧o2.op=.defer c∧o2.guard=none∧c.callee=.value (.tmp s)∧c.args=#[]:=by
 unfold dfrOf at e
 split at e
 ·rename_i o1 o2
  split at e
  ·rename_i s0 g0 first caps0 c h1 h2 h3 h4 h5 h6
   split at e
   ·rename_i s' hc
    split at e
    ·rename_i hq
     obtain ⟨rfl,rfl,hargs⟩:=hq
     simp only [Option.some.injEq,Prod.mk.injEq] at e
     obtain ⟨rfl,rfl,rfl⟩:=e
     exact ⟨o1,o2,c,rfl,h1,h2,h3,h4,h5,h6,hc,hargs⟩
    ·simp at e
   ·simp at e
  ·simp at e
 ·simp at e
theorem defer_runs {fr:Fr} {a:Act} {ops:Array Oper} {s g:Nat} {caps:Array Operand} {f id n:Nat} {b:Frame} {cs:List Frame} {k:List Item} (hok:CodeOk C f n (.region id ops false)) (hn:n≤a.tmps.size) (hf:FrRel μ h w fr a.tmps) (hd:a.defers=[]) (e:dfrOf ops.toList=some (s,g,caps)) :
  ∃ a':Act,Steps C.P (lone (b.at a (.code (.region id ops false)::k)) cs w) (lone (b.at a' k) cs w)∧FrRel μ h w (put fr (some s) (.fn g (evs (ev fr) caps.toList))) a'.tmps∧a'.tmps.size=a.tmps.size∧DefR μ h w (some (.fn g (evs (ev fr) caps.toList))) a'.defers:=by
 obtain ⟨o1,o2,c,hops,h1,h2,h3,h4,h5,h6,h7,h8⟩:=dfrOf_some e
 have hops':ops=#[o1,o2]:=by
  apply Array.ext'
  simpa using hops
 subst hops'
 have hs:s < a.tmps.size:=Nat.lt_of_lt_of_le (hok.1 0 o1 (by simp) s h1) hn
 let fv:Value:=.func (.func g) #[] (caps.map a.eval)
 have hrep:=evs_rep (ev_rep hf) caps.toList
 have hfv:Rep μ h w (.fn g (evs (ev fr) caps.toList)) fv:=⟨caps.toList.map a.eval,by simp [fv,←Array.toList_map],hrep⟩
 let a1:Act:=a.put (some s) fv
 let a':Act:={ a1 with defers:=[{ target:=.fn (.func g) (caps.toList.map a.eval).toArray,args:=#[] }] }
 have e1:(execOp a.eval o1).run C.P w=.ok (.value fv) w:=by
  simp [execOp,h2,Instr.makeFunc,fv]
 have hget:a1.eval (.tmp s)=fv:=by
  simp [a1,Act.put,Act.eval,hs]
 have e2:(execOp a1.eval o2).run C.P w=.ok (.defer { target:=.fn (.func g) (caps.toList.map a.eval).toArray,args:=#[] }) w:=by
  simp only [execOp,h5,resolve,h7,h8,hget,fv,Deferred.ofValue]
  simp [←Array.toList_map]
 have hwp:(Code.region id #[o1,o2] false).wp C.P (fun x a2 w2=>x=.normal∧a2=a'∧w2=w) a w:=by
  refine wp_region ?_
  have hr2:List.range (#[o1,o2]:Array Oper).size=[0,1]:=rfl
  rw [hr2]
  have hw1:Region.wanted o1 (yielded #[o1,o2] a.tmps)=true:=by simp [Region.wanted,h3]
  have hw2:Region.wanted o2 (yielded #[o1,o2] a1.tmps)=true:=by simp [Region.wanted,h6]
  have g0:(#[o1,o2]:Array Oper)[0]? = some o1:=rfl
  have g1:(#[o1,o2]:Array Oper)[1]? = some o2:=rfl
  simp only [wpOps,g0,hw1,if_true]
  left
  unfold Oper.wp
  rw [e1,Oper.upon_value,h1]
  have e2':(execOp (a.put (some s) fv).eval o2).run C.P w=.ok (.defer { target:=.fn (.func g) (caps.toList.map a.eval).toArray,args:=#[] }) w:=e2
  have hw2':Region.wanted o2 (yielded #[o1,o2] (a.put (some s) fv).tmps)=true:=hw2
  simp only [g1,hw2',if_true]
  left
  rw [e2',Oper.upon_defer,h4]
  have hd1:(a.put (some s) fv).defers=[]:=by simp [Act.put,hd]
  refine ⟨trivial,?_,rfl⟩
  show ({ a.put (some s) fv with defers:=_::(a.put (some s) fv).defers }:Act)=a'
  rw [hd1]
 obtain ⟨x,a2,w2,⟨rfl,rfl,rfl⟩,harr⟩:=hwp b k cs
 refine ⟨a',harr,?_,by simp [a',a1,Act.put],caps.toList.map a.eval,rfl,hrep⟩
 exact FrRel.put (d:=some s) hf (fun i hi=>by simp only [Option.some.injEq] at hi;omega) hfv
theorem code_runsP (hC:CfgOk Bs C) (hN:NoOk C.P no) (hF:Knows Bs C.P (F none)) (hR:RunsP Bs C F):RunsP Bs C (stepP C D no F):=by
 intro p f k ks fr h r h' e fn hfn hks b cs a μ w μ0 h0 w0 hk hr ex hf hn hd
 simp only [stepP] at e
 split at e
 ·unfold stepF at e
  match ks,hks,e with
  | [],_,e=>exact Ran.of_steps (.one step_end) (retP_sound hC hN hR hfn e hk hr ex hf hd)
  | .blk id n::ks,hks,e=>exact Ran.of_steps (.one step_inBlock) (hR p f k ks fr h r h' e fn hfn hks.tail b cs a μ w μ0 h0 w0 hk hr ex hf hn hd)
  | .lp c none n::ks,hks,e=>exact Ran.of_steps (.one step_inLoop) (hR p f k _ fr h r h' e fn hfn (ItsOk.cons hks.head hks) b cs a μ w μ0 h0 w0 hk hr ex hf hn hd)
  | .lp c (some live) n::ks,hks,e=>simp at e
  | .pst l c::ks,hks,e=>simp at e
  | .code c::ks,hks,e =>
   have hc:CodeOk C f fn.ntmps c:=hks.head
   cases c with
   | skip=>exact Ran.of_steps (.one step_skip) (hR p f k ks fr h r h' e fn hfn hks.tail b cs a μ w μ0 h0 w0 hk hr ex hf hn hd)
   | seq x y=>exact Ran.of_steps (.one step_seq) (hR p f k _ fr h r h' e fn hfn (ItsOk.cons hc.1 (ItsOk.cons hc.2 hks.tail)) b cs a μ w μ0 h0 w0 hk hr ex hf hn hd)
   | region id ops draw =>
    simp only at e
    split at e
    ·rename_i s g caps hcl
     cases draw with
     | true=>simp [closed] at hcl
     | false =>
      simp only [closed] at hcl
      split at e
      ·obtain ⟨a',q1,q2,q3,q4⟩:=defer_runs (b:=b) (cs:=cs) (k:=items ks) (w:=w) hc hn hf hd hcl
       exact Ran.of_steps q1 (hR _ f k ks _ h r h' e fn hfn hks.tail b cs a' μ w μ0 h0 w0 hk hr ex q2 (by omega) q4)
      ·simp at e
    ·unfold onRegP at e
     split at e
     ·rename_i fr1 h1 hreg
      obtain ⟨x,a1,w1,⟨rfl,μ1,q1,q2,q3,q4,q5⟩,harr⟩:=region_sound hC hF hc hn hr hf hreg b (items ks) cs
      exact Ran.of_steps harr (hR p f k _ fr1 h1 r h' e fn hfn hks.tail b cs a1 μ1 w1 μ0 h0 w0 hk q1 (ex.trans q2) q3 (by omega) (by rw [q5];exact hd.ext q2))
     ·simp at e
   | cond x pp qq =>
    simp only at e
    split at e
    ·rename_i t ht
     have hx:=ev_rep hf x
     rw [ht] at hx
     have hx':a.eval x=.bool t:=hx
     have hstep:=step_cond (P:=C.P) (b:=b) (k:=items ks) (cs:=cs) (w:=w) (x:=pp) (y:=qq) hx'
     refine Ran.of_steps (.one hstep) (hR p f k _ fr h r h' e fn hfn (ItsOk.cons (x:=.code (if t=true then pp else qq)) ?_ hks.tail) b cs a μ w μ0 h0 w0 hk hr ex hf hn hd)
     cases t with
     | true=>exact hc.1
     | false=>exact hc.2
    ·simp at e
   | block id c=>exact Ran.of_steps (.one step_block) (hR p f k _ fr h r h' e fn hfn (ItsOk.cons (x:=.code c) hc (ItsOk.cons (x:=.blk id h.length) trivial hks.tail)) b cs a μ w μ0 h0 w0 hk hr ex hf hn hd)
   | loop c=>exact Ran.of_steps (.one step_loop) (hR p f k _ fr h r h' e fn hfn (ItsOk.cons (x:=.code c) hc (ItsOk.cons (x:=.lp c none 0) hc hks.tail)) b cs a μ w μ0 h0 w0 hk hr ex hf hn hd)
   | exit id =>
    simp only at e
    split at e
    ·rename_i n ks' hu
     obtain ⟨h1,h2⟩:=unwind_items hu
     exact Ran.of_steps (.one (step_exit h1)) (hR p f k ks' fr h r h' e fn hfn (fun x hx=>hks x (List.mem_cons_of_mem _ (h2 x hx))) b cs a μ w μ0 h0 w0 hk hr ex hf hn hd)
    ·simp at e
   | ret=>exact Ran.of_steps (.one step_ret) (retP_sound hC hN hR hfn e hk hr ex hf hd)
   | _=>simp at e
 ·split at e
  ·exact code_runs hC hF hR.plain f k ks fr h r h' e fn hfn hks b cs a μ w μ0 h0 w0 hk hr ex hf hn hd
  ·simp at e
theorem runP_known (hC:CfgOk Bs C) (hN:NoOk C.P no):∀ n,Knows Bs C.P (runP C D no n none)∧RunsP Bs C (runP C D no n)
 | 0=>⟨fun _ _ _ _ _ e=>by simp [runP] at e,fun _ _ _ _ _ _ _ _ e=>by simp [runP] at e⟩
 | n+1=>by
  obtain ⟨h1,h2⟩:=runP_known hC hN n
  refine ⟨fun f args h r h' e=>calls_known (F:=runP C D no n none) hC h2.plain f args h r h' ?_,code_runsP hC hN h1 h2⟩
  simpa only [runP,stepP] using e
theorem runP_sound (hC:CfgOk Bs C) (hN:NoOk C.P no) {n:Nat} {f:Nat} {args:List AV} {h h':Heap} {r:AV} (e:runP C D no n none (.call f args h)=some (r,h')):Go.Proofs.Enters C.P f∧Called Bs C.P f args h r h':=(runP_known hC hN n).1 f args h r h' e
end
section
variable {P:Program} {ρ:Go.Shelf.Ren}
open Go.Shelf Go.RowKit in
set_option maxHeartbeats 2000000 in
set_option maxRecDepth 100000 in
theorem Any.Builder_String_exact (L:Lays.n169 P ρ) (X:Builder.Extra P ρ) (b g cap:Nat) (p:Value) (T:TypeId) (cur:Array Value) (fz:Nat×Nat) (l:List UInt8) (w:World) (h0:l≠[])
  (hbk:w.heap[b]? = some (.cells #[p,.slice (some ⟨g,0,none⟩) l.length cap] T (0,0))) (hg:w.heap[g]? = some (.cells cur (ρ.t 5) fz)) (hcap:l.length≤cap) (hcs:l.length≤cur.size) (h63:l.length≤9223372036854775807)
  (hcell:∀ (j:Nat) (x:UInt8),l[j]? = some x→cur[j]? = some (Value.int .u8 x.toNat)) :
  Calls P (ρ.f 169) #[.pointer (some ⟨b,0,none⟩)] w fun e w'=>e=.returned (.string ⟨l.toArray⟩)∧w'=w.drew.freeze ⟨g,0,none⟩ l.length:=by
 have hl0:l.length≠0:=by simpa using h0
 have c1:w.drew.cell? ⟨b,1,none⟩=some (.slice (some ⟨g,0,none⟩) l.length cap):=by
  have:w.drew.heap[b]? = some (.cells #[p,.slice (some ⟨g,0,none⟩) l.length cap] T (0,0)):=hbk
  rw [Lib.cell_of_heap this];rfl
 have hSD:(Builtin.unsafeSliceData_ #[(ρ.t 37)] (ρ.t 127) #[.slice (some ⟨g,0,none⟩) l.length cap]).run P w.drew=.ok (.pointer (some ⟨g,0,none⟩)) w.drew :=
  Lib.run_unsafeSliceData_row _ _ _ _ _ _ (by omega)
 have hUS:(Builtin.unsafeString_ #[(ρ.t 127),(ρ.t 3)] (ρ.t 9) #[.pointer (some ⟨g,0,none⟩),.int .i64 l.length]).run P w.drew=.ok (.string ⟨l.toArray⟩) (w.drew.freeze ⟨g,0,none⟩ l.length):=by
  refine Lib.run_unsafeString_row w.drew (ρ.t 127) (ρ.t 3) (ρ.t 9) (ρ.t 5) L.t127 X.cellsByte g cur.size (by have hg':w.drew.heap[g]? = some (.cells cur (ρ.t 5) fz):=hg;simp [World.shape?,hg']) l h0 hcs h63 ?_
  intro j x hx
  have hg':w.drew.heap[g]? = some (.cells cur (ρ.t 5) fz):=hg
  have hadd:(⟨g,0,none⟩:Addr).add j=⟨g,j,none⟩:=by unfold Addr.add;split<;>simp_all
  rw [hadd,Lib.cell_of_heap hg']
  exact hcell j x hx
 have mixed:=L.mixed
 have t72:=L.t72;have a72:=L.a72;have z72:=L.z72;have v72:=L.v72;have u72:=run_underlying L.t72
 have t70:=L.t70;have a70:=L.a70;have z70:=L.z70;have v70:=L.v70;have u70:=run_underlying L.t70
 have t37:=L.t37;have a37:=L.a37;have z37:=L.z37;have v37:=L.v37;have u37:=run_underlying L.t37
 have t127:=L.t127;have a127:=L.a127;have z127:=L.z127;have v127:=L.v127;have u127:=run_underlying L.t127
 have t3:=L.t3;have a3:=L.a3;have z3:=L.z3;have v3:=L.v3;have u3:=run_underlying L.t3
 have t9:=L.t9;have a9:=L.a9;have z9:=L.z9;have v9:=L.v9;have u9:=run_underlying L.t9
 have t5:=X.t5;have a5:=X.a5;have z5:=X.z5;have v5:=X.v5;have u5:=run_underlying X.t5
 go_enter L.f169,Body.n169_ntmps ρ
 go_wp2
 go_region_o
 all_goals (go_wp2;go_ret;exact ⟨rfl,rfl⟩)
open Go.Shelf Go.RowKit in
set_option maxHeartbeats 2000000 in
set_option maxRecDepth 100000 in
theorem Any.Builder_String_none (L:Lays.n169 P ρ) (X:Builder.Extra P ρ) (b:Nat) (p:Value) (w:World) (hbk:w.heap[b]? = some (.cells #[p,.slice none 0 0] (ρ.t 72) (0,0))) :
  Calls P (ρ.f 169) #[.pointer (some ⟨b,0,none⟩)] w fun e w'=>e=.returned (.string ⟨#[]⟩)∧w'=w.drew:=by
 have hUS:=Any.unsafeString_none L X
 have c1:w.drew.cell? ⟨b,1,none⟩=some (.slice none 0 0):=by
  have:w.drew.heap[b]? = some (.cells #[p,.slice none 0 0] (ρ.t 72) (0,0)):=hbk
  rw [Lib.cell_of_heap this];rfl
 have hSD:(Builtin.unsafeSliceData_ #[(ρ.t 37)] (ρ.t 127) #[.slice none 0 0]).run P w.drew=.ok (.pointer none) w.drew:=rfl
 have mixed:=L.mixed
 have t72:=L.t72;have a72:=L.a72;have z72:=L.z72;have v72:=L.v72;have u72:=run_underlying L.t72
 have t70:=L.t70;have a70:=L.a70;have z70:=L.z70;have v70:=L.v70;have u70:=run_underlying L.t70
 have t37:=L.t37;have a37:=L.a37;have z37:=L.z37;have v37:=L.v37;have u37:=run_underlying L.t37
 have t127:=L.t127;have a127:=L.a127;have z127:=L.z127;have v127:=L.v127;have u127:=run_underlying L.t127
 have t3:=L.t3;have a3:=L.a3;have z3:=L.z3;have v3:=L.v3;have u3:=run_underlying L.t3
 have t9:=L.t9;have a9:=L.a9;have z9:=L.z9;have v9:=L.v9;have u9:=run_underlying L.t9
 have t5:=X.t5;have a5:=X.a5;have z5:=X.z5;have v5:=X.v5;have u5:=run_underlying X.t5
 go_enter L.f169,Body.n169_ntmps ρ
 go_wp2
 go_region_o
 all_goals (go_wp2;go_ret;exact ⟨rfl,rfl⟩)
end
section
variable {Bs:World→Prop} {P:Program} {ρ:Go.Shelf.Ren}
def bytesOf:List (List AV)→Option (List UInt8)
 | []=>some []
 | [.int .u8 n]::r=>if 0≤n∧n < 256 then (match bytesOf r with
  | some l=>some (UInt8.ofNat n.toNat::l)
  | none=>none) else none
 | _=>none
theorem bytesOf_rows:∀ s:List UInt8,bytesOf (byteRows s)=some s
 | []=>rfl
 | b::r=>by
  have h:=b.toNat_lt
  simp only [byteRows,bytesOf]
  rw [if_pos (by omega),bytesOf_rows r]
  simp
theorem bytesOf_eq:∀ (rs:List (List AV)) (s:List UInt8),bytesOf rs=some s→rs=byteRows s
 | [],s,e=>by simp only [bytesOf,Option.some.injEq] at e;subst e;rfl
 | row::r,s,e=>by
  unfold bytesOf at e
  split at e
  ·simp at *
  ·rename_i n r' heq
   obtain ⟨rfl,rfl⟩:=List.cons.inj heq
   split at e
   ·rename_i hn
    split at e
    ·rename_i l hl
     simp only [Option.some.injEq] at e
     subst e
     rw [byteRows,bytesOf_eq r l hl]
     have:((UInt8.ofNat n.toNat).toNat:Int)=n:=by
      rw [UInt8.toNat_ofNat']
      omega
     rw [this]
    ·simp at e
   ·simp at e
  ·simp at e
def pCopyCheck (t:TypeId):List AV→Heap→Option (AV×Heap)
 | [.tptr t' 0 0],.cells [.nilp,x]::r=>if t'=t then some (.tup [],.cells [.ptr 0 0,x]::r) else none
 | [.tptr t' 0 0],.cells [.ptr 0 0,x]::r=>if t'=t then some (.tup [],.cells [.ptr 0 0,x]::r) else none
 | _,_=>none
def pBString (t e:TypeId):List AV→Heap→Option (AV×Heap)
 | [.tptr t' 0 0],.cells [p,.town e' 1 n]::.rows 1 rs false::r=>if t'=t∧(e'=e∧(n=rs.length∧(0 < n∧n≤9223372036854775807))) then (match bytesOf rs with
  | some s=>some (.str s,.cells [p,.town e' 1 n]::.rows 1 rs false::r)
  | none=>none) else none
 | [.tptr t' 0 0],.cells [p,.nils]::r=>if t'=t then some (.str [],.cells [p,.nils]::r) else none
 | _,_=>none
theorem ptr_args {μ:Mp Bs} {h:Heap} {w:World} {t:TypeId} {cs:List AV} {r:Heap} {vs:List Value} (hr:Rel μ (.cells cs::r) w) (ha:RepL μ (.cells cs::r) w [.tptr t 0 0] vs) :
  ∃ b us,vs=[.pointer (some ⟨b,0,none⟩)]∧μ 0=some b∧w.heap[b]? = some (.cells (List.toArray us) t (0,0))∧singles cs=true∧RepL μ (.cells cs::r) w cs us:=by
 obtain ⟨v,vr,rfl,h1,h2⟩:=ha
 have h2:vr=[]:=h2
 subst h2
 obtain ⟨cs',b,hl,hm,rfl,vs',fz,hs⟩:=h1
 obtain ⟨b',us,T,h3,h4,h5,h6⟩:=hr.blk 0 _ (show (Blk.cells cs::r)[0]? = some (.cells cs) from rfl)
 have:b'=b:=by rw [hm] at h3;simpa using h3.symm
 subst this
 rw [h4] at hs
 simp only [Option.some.injEq,Obj.cells.injEq] at hs
 obtain ⟨_,rfl,_⟩:=hs
 exact ⟨b',us,rfl,hm,h4,h5,h6⟩
theorem two_cells {μ:Mp Bs} {h:Heap} {w:World} {p x:AV} {us:List Value} (r:RepL μ h w [p,x] us):∃ u v,us=[u,v]∧Rep μ h w p u∧Rep μ h w x v:=by
 obtain ⟨u,ur,rfl,h1,v,vr,rfl,h2,h3⟩:=r
 have h3:vr=[]:=h3
 subst h3
 exact ⟨u,v,rfl,h1,h2⟩
open Go.Shelf in
theorem copyCheck_called (L:Lays.n240 P ρ) (X:Builder.X72 P ρ) {args:List AV} {h h':Heap} {v:AV} (e:pCopyCheck (ρ.t 72) args h=some (v,h')):Called Bs P (ρ.f 240) args h v h':=by
 unfold pCopyCheck at e
 split at e
 ·rename_i t' x r
  split at e
  ·rename_i ht
   subst ht
   simp only [Option.some.injEq,Prod.mk.injEq] at e
   obtain ⟨rfl,rfl⟩:=e
   intro μ w vs hr ha
   obtain ⟨b,us,rfl,hm,hb,hs,hu⟩:=ptr_args (h:=[]) hr ha
   obtain ⟨u,v,rfl,h1,h2⟩:=two_cells hu
   have h1:u=.pointer none:=h1
   subst h1
   have c0:w.cell? ⟨b,0,none⟩=some (.pointer none):=by rw [Lib.cell_of_heap hb];rfl
   have hsh:w.shape? b=some ((ρ.t 72),2):=by simp [World.shape?,hb]
   have hfr:w.frozen? ⟨b,0,none⟩=false:=Lib.frozen_of_heap hb 0
   refine (Any.Builder_copyCheck_fresh L X b w c0 hsh hfr).mono ?_
   rintro e w' ⟨rfl,rfl⟩
   rw [setCell_eq_setRow w b 0 _ _ _ _ hb]
   have hk:(w.setRow b (#[Value.pointer none,v].setIfInBounds 0 (.pointer (some ⟨b,0,none⟩)))).heap[b]? = some (.cells #[.pointer (some ⟨b,0,none⟩),v] (ρ.t 72) (0,0)):=setRow_heap w b _ _ _ _ hb
   have ex:Ext μ (.cells [.nilp,x]::r) w μ ((Blk.cells [.nilp,x]::r).set 0 (.cells [.ptr 0 0,x])) (w.setRow b (#[Value.pointer none,v].setIfInBounds 0 (.pointer (some ⟨b,0,none⟩)))) :=
    Ext.update hr (l:=0) rfl hm hb hk (fun b2 hb2=>setRow_other w b b2 _ hb2) rfl rfl rfl (by simp) rfl (fun _ _ _ hno=>absurd trivial hno) (fun _ _=>trivial) trivial
   refine ⟨.tuple #[],μ,rfl,Rel.update hr (l:=0) rfl hm (fun b2 hb2=>setRow_other w b b2 _ hb2) ex ?_,ex,[],rfl,rfl⟩
   refine ⟨b,[.pointer (some ⟨b,0,none⟩),v],ρ.t 72,hm,hk,?_,.pointer (some ⟨b,0,none⟩),[v],rfl,?_,v,[],rfl,Rep.ext ex _ _ h2,rfl⟩
   ·simp only [singles,Bool.and_true,Bool.and_eq_true] at hs ⊢
    exact ⟨rfl,hs.2⟩
   ·exact ⟨[.ptr 0 0,x],b,rfl,hm,rfl⟩
  ·simp at e
 ·rename_i t' x r
  split at e
  ·rename_i ht
   subst ht
   simp only [Option.some.injEq,Prod.mk.injEq] at e
   obtain ⟨rfl,rfl⟩:=e
   intro μ w vs hr ha
   obtain ⟨b,us,rfl,hm,hb,hs,hu⟩:=ptr_args (h:=[]) hr ha
   obtain ⟨u,v,rfl,h1,h2⟩:=two_cells hu
   obtain ⟨cs',b',_,hm',rfl⟩:=h1
   have:b'=b:=by rw [hm] at hm';simpa using hm'.symm
   subst this
   have c0:w.cell? ⟨b',0,none⟩=some (.pointer (some ⟨b',0,none⟩)):=by rw [Lib.cell_of_heap hb];rfl
   refine (Any.Builder_copyCheck_used L X b' w c0).mono ?_
   rintro e w' ⟨rfl,rfl⟩
   exact ⟨.tuple #[],μ,rfl,hr,Ext.refl _ _ _,[],rfl,rfl⟩
  ·simp at e
 ·simp at e
theorem froze {μ:Mp Bs} {h:Heap} {w:World} {l g n:Nat} {rs:List (List AV)} (hr:Rel μ h w) (hl:h[l]? = some (.rows 1 rs false)) (hm:μ l=some g) (hn:n≤rs.length) :
  Rel μ h (w.freeze ⟨g,0,none⟩ n)∧Ext μ h w μ h (w.freeze ⟨g,0,none⟩ n):=by
 by_cases h0:n=0
 ·subst h0
  have:w.freeze ⟨g,0,none⟩ 0=w:=rfl
  rw [this]
  exact ⟨hr,Ext.refl _ _ _⟩
 rcases hr.blk l _ hl with ⟨_,h1⟩ | ⟨b,vs,T,h1,⟨fz,h2,h3⟩,h4,h5⟩
 ·rw [hm] at h1;simp at h1
 ·have:b=g:=by rw [hm] at h1;simpa using h1.symm
  subst this
  have hset:h.set l (.rows 1 rs false)=h:=list_set_same hl
  have hother:∀ b2,b2≠b→(w.freeze ⟨b,0,none⟩ n).heap[b2]? = w.heap[b2]? := fun b2 hb2=>by
   unfold World.freeze
   rw [if_neg h0]
   simp only [Array.getElem?_modify]
   rw [if_neg (fun e=>hb2 e.symm)]
  obtain ⟨fz',hb',hfz'⟩:∃ fz':Nat×Nat,(w.freeze ⟨b,0,none⟩ n).heap[b]? = some (.cells vs T fz')∧fz'.2≤rs.length*1:=by
   obtain ⟨lo,hi⟩:=fz
   refine ⟨if lo==hi then (0,0+n) else (min lo 0,max hi (0+n)),?_,?_⟩
   ·unfold World.freeze
    rw [if_neg h0]
    simp only [Array.getElem?_modify,if_true,h2,Option.map_some]
   ·have:hi≤rs.length*1:=by
     rcases h3 with h3 | h3
     ·simp only [Prod.mk.injEq] at h3;omega
     ·exact h3.2
    split
    ·simp;omega
    ·simp only [Nat.zero_add,Nat.mul_one] at this ⊢;omega
  have ex:Ext μ h w μ (h.set l (.rows 1 rs false)) (w.freeze ⟨b,0,none⟩ n) :=
   Ext.update hr hl hm h2 hb' hother (by unfold World.freeze;split<;>rfl) (by unfold World.freeze;split<;>rfl) (by unfold World.freeze;split<;>rfl) (by unfold World.freeze;split<;>simp) rfl (fun _ _ hv _=>hv) (fun _ ho=>ho) ⟨rfl,Nat.le_refl _⟩
  have re:=Rel.update hr hl hm hother ex (.inr ⟨b,vs,T,hm,⟨fz',hb',.inr ⟨rfl,hfz'⟩⟩,h4,h5.ext ex⟩)
  rw [hset] at ex re
  exact ⟨re,ex⟩
open Go.Shelf in
theorem bString_called (L:Lays.n169 P ρ) (X:Builder.Extra P ρ) {args:List AV} {h h':Heap} {v:AV} (e:pBString (ρ.t 72) (ρ.t 5) args h=some (v,h')):Called Bs P (ρ.f 169) args h v h':=by
 unfold pBString at e
 split at e
 ·rename_i t' p e' n rs r
  split at e
  ·rename_i hc
   obtain ⟨rfl,rfl,hn,hn0,hn63⟩:=hc
   split at e
   ·rename_i s hs
    simp only [Option.some.injEq,Prod.mk.injEq] at e
    obtain ⟨rfl,rfl⟩:=e
    have hrs:=bytesOf_eq rs s hs
    subst hrs
    rw [byteRows_length] at hn
    subst hn
    intro μ w vs hr ha
    obtain ⟨b,us,rfl,hm,hb,_,hu⟩:=ptr_args (h:=[]) hr ha
    obtain ⟨u,v,rfl,h1,h2⟩:=two_cells hu
    have hl1:(Blk.cells [p,.town (ρ.t 5) 1 s.length]::Blk.rows 1 (byteRows s) false::r)[1]? = some (.rows 1 (byteRows s) false):=rfl
    obtain ⟨z2,rs2,wr2,base,cap,hl2,_,rfl,hv⟩:=h2
    rw [hl1] at hl2
    simp only [Option.some.injEq,Blk.rows.injEq] at hl2
    obtain ⟨rfl,rfl,rfl⟩:=hl2
    obtain ⟨h3,_,h4⟩:=hv (by rw [byteRows_length])
    rcases h4 with ⟨_,hc0⟩ | ⟨g,cur,rfl,hm1,⟨fz,hg⟩,hcz⟩
    ·omega
    ·rcases hr.blk 1 _ hl1 with ⟨_,h5⟩ | ⟨g',cur',T',h5,⟨fz',h6,_⟩,h7,h8⟩
     ·rw [hm1] at h5;simp at h5
     ·have:g'=g:=by rw [hm1] at h5;simpa using h5.symm
      subst this
      rw [hg] at h6
      simp only [Option.some.injEq,Obj.cells.injEq] at h6
      obtain ⟨rfl,rfl,rfl⟩:=h6
      rw [byteRows_length] at h7
      refine (Any.Builder_String_exact L X b g' cap u _ cur fz s w (fun e=>by subst e;simp at hn0) hb hg h3 (by omega) hn63 fun j x hx=>?_).mono ?_
      ·have hrow:(byteRows s)[j]? = some [.int .u8 (x.toNat:Int)]:=by rw [byteRows_get,hx];rfl
       obtain ⟨_,_,h9⟩:=h8 j _ hrow
       obtain ⟨u',h10,h11⟩:=h9 0 _ rfl
       have h11:u'=.int .u8 (x.toNat:Int):=h11
       subst h11
       simpa using h10
      ·rintro e w' ⟨rfl,rfl⟩
       have hrd:Rel μ (.cells [p,.town (ρ.t 5) 1 s.length]::.rows 1 (byteRows s) false::r) w.drew:=drew_rel hr
       have hed:Ext μ (.cells [p,.town (ρ.t 5) 1 s.length]::.rows 1 (byteRows s) false::r) w μ (.cells [p,.town (ρ.t 5) 1 s.length]::.rows 1 (byteRows s) false::r) w.drew:=drew_ext
       obtain ⟨q1,q2⟩:=froze (n:=s.length) hrd hl1 hm1 (by rw [byteRows_length];exact Nat.le_refl _)
       exact ⟨_,μ,rfl,q1,hed.trans q2,rfl⟩
   ·simp at e
  ·simp at e
 ·rename_i t' p r
  split at e
  ·rename_i ht
   subst ht
   simp only [Option.some.injEq,Prod.mk.injEq] at e
   obtain ⟨rfl,rfl⟩:=e
   intro μ w vs hr ha
   obtain ⟨b,us,rfl,hm,hb,_,hu⟩:=ptr_args (h:=[]) hr ha
   obtain ⟨u,v,rfl,h1,h2⟩:=two_cells hu
   have h2:v=.slice none 0 0:=h2
   subst h2
   refine (Any.Builder_String_none L X b u w hb).mono ?_
   rintro e w' ⟨rfl,rfl⟩
   exact ⟨_,μ,rfl,drew_rel hr,drew_ext,rfl⟩
  ·simp at e
 ·simp at e
end
section
variable {P:Program} {ρ:Go.Shelf.Ren}
open Go.Shelf Go.RowKit in
set_option maxHeartbeats 2000000 in
set_option maxRecDepth 100000 in
theorem Any.Builder_String_cell (L:Lays.n169 P ρ) (X:Builder.Extra P ρ) (b:Nat) (w:World) (hc:w.cell? ⟨b,1,none⟩=some (.slice none 0 0)) :
  Calls P (ρ.f 169) #[.pointer (some ⟨b,0,none⟩)] w fun e w'=>e=.returned (.string ⟨#[]⟩)∧w'=w.drew:=by
 have hUS:=Any.unsafeString_none L X
 have c1:w.drew.cell? ⟨b,1,none⟩=some (.slice none 0 0):=hc
 have hSD:(Builtin.unsafeSliceData_ #[(ρ.t 37)] (ρ.t 127) #[.slice none 0 0]).run P w.drew=.ok (.pointer none) w.drew:=rfl
 have mixed:=L.mixed
 have t72:=L.t72;have a72:=L.a72;have z72:=L.z72;have v72:=L.v72;have u72:=run_underlying L.t72
 have t70:=L.t70;have a70:=L.a70;have z70:=L.z70;have v70:=L.v70;have u70:=run_underlying L.t70
 have t37:=L.t37;have a37:=L.a37;have z37:=L.z37;have v37:=L.v37;have u37:=run_underlying L.t37
 have t127:=L.t127;have a127:=L.a127;have z127:=L.z127;have v127:=L.v127;have u127:=run_underlying L.t127
 have t3:=L.t3;have a3:=L.a3;have z3:=L.z3;have v3:=L.v3;have u3:=run_underlying L.t3
 have t9:=L.t9;have a9:=L.a9;have z9:=L.z9;have v9:=L.v9;have u9:=run_underlying L.t9
 have t5:=X.t5;have a5:=X.a5;have z5:=X.z5;have v5:=X.v5;have u5:=run_underlying X.t5
 go_enter L.f169,Body.n169_ntmps ρ
 go_wp2
 go_region_o
 all_goals (go_wp2;go_ret;exact ⟨rfl,rfl⟩)
end
section
variable {Bs:World→Prop} {P:Program} {ρ:Go.Shelf.Ren}
def pBString2 (t e:TypeId) (args:List AV) (h:Heap):Option (AV×Heap) :=
 match args,h with
 | [.ptr 0 0],.cells (p::.nils::q)::r=>some (.str [],.cells (p::.nils::q)::r)
 | args,h=>pBString t e args h
open Go.Shelf in
theorem bString2_called (L:Lays.n169 P ρ) (X:Builder.Extra P ρ) {args:List AV} {h h':Heap} {v:AV} (e:pBString2 (ρ.t 72) (ρ.t 5) args h=some (v,h')):Called Bs P (ρ.f 169) args h v h':=by
 unfold pBString2 at e
 split at e
 ·rename_i p q r
  simp only [Option.some.injEq,Prod.mk.injEq] at e
  obtain ⟨rfl,rfl⟩:=e
  intro μ w vs hr ha
  obtain ⟨v,vr,rfl,h1,h2⟩:=ha
  have h2:vr=[]:=h2
  subst h2
  obtain ⟨cs',b,hl,hm,rfl⟩:=h1
  obtain ⟨b',us,T,h3,h4,h5,h6⟩:=hr.blk 0 _ (show (Blk.cells (p::.nils::q)::r)[0]? = some (.cells (p::.nils::q)) from rfl)
  have:b'=b:=by rw [hm] at h3;simpa using h3.symm
  subst this
  obtain ⟨u,ur,rfl,h7,x,xr,rfl,h8,h9⟩:=h6
  have h8:x=.slice none 0 0:=h8
  subst h8
  refine (Any.Builder_String_cell L X b' w ?_).mono ?_
  ·rw [Lib.cell_of_heap h4];rfl
  ·rintro e w' ⟨rfl,rfl⟩
   exact ⟨_,μ,rfl,drew_rel hr,drew_ext,rfl⟩
 ·exact bString_called L X e
end
end Go.Ab
