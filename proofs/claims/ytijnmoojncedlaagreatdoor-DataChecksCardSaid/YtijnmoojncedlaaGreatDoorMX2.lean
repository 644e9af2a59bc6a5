/- What is proved: contracts of the program's and the reference's functions in the evaluator, and plain laws on them. Conditions: as each states. -/
import Derived.Test.YtijnmoojncedlaaGreatDoorMX1
set_option linter.unusedSimpArgs false
set_option linter.unusedSectionVars false
set_option linter.unusedVariables false
set_option maxRecDepth 100000
namespace Go.Ab
open Go Go.Proofs
section
variable {Bs:World→Prop}
variable {P:Program} {μ:Mp Bs} {h h':Zd} {w:World} {a:Act} {o:Oper} {x:AV}
theorem ZbV {s:Sem Value} (hs:execOp a.eval o=(do pure (.value (←s)))) (hq:Quiet P μ h w s x):Wa P o a μ h w x h:=by
 intro next Q hn
 obtain ⟨u,w',h1,h2,h3,h4⟩:=hq
 have:(execOp a.eval o).run P w=.ok (.value u) w':=by
  rw [hs];simp [h1]
 unfold Oper.wp
 rw [this]
 exact hn u μ w' h2 h3 h4
theorem WU {v:Value} (hs:execOp a.eval o=pure (.value v)) (hr:Rel μ h w) (hv:Rep μ h w x v):Wa P o a μ h w x h:=by
 intro next Q hn
 have:(execOp a.eval o).run P w=.ok (.value v) w:=by rw [hs];rfl
 unfold Oper.wp
 rw [this]
 exact hn v μ w hr (Ext.refl _ _ _) hv
theorem YC {s:Sem Value} (hs:execOp a.eval o=(do pure (.value (←s)))) (hr:Rel μ h w) (hq:∃ u,s.run P w=.ok u w∧Rep μ h w x u):Wa P o a μ h w x h :=
 ZbV hs (Quiet.of_same hr hq)
theorem Za9 {ev:Operand→AV} {ρ:Operand→Value} (he:XB μ h w ev ρ) (y:Option Operand):Jt μ h w (evo ev y) (y.map ρ):=by
 cases y with
 | none=>trivial
 | some y=>exact he y
def ZfP (μ:Mp Bs) (h:Zd):Mp Bs:=⟨fun _=>none,Mut μ h,μ.still⟩
theorem Rel.empty (hr:Rel μ h w):Rel (ZfP μ h) [] w where
 inj:=fun _ _ _ hl=>by simp at hl
 blk:=fun _ _ hl=>by simp at hl
 apart:=fun _ _ _ hl=>by simp at hl
 still:=fun b hb=>⟨(hr.still b hb).1,fun l hl=>by simp at hl⟩
 base:=hr.base
 old:=fun b o ho=>by
  rcases ho with ho | ⟨l,k,hl,hm,_⟩
  ·exact hr.old b o ho
  ·exact hr.mapped (List.getElem?_eq_some_iff.1 hl).1 hm
theorem ZgU {b o:Nat}:Mut (ZfP μ h) [] b o↔Mut μ h b o:=by
 constructor
 ·rintro (ho | ⟨l,k,hl,_⟩)
  ·exact ho
  ·simp at hl
 ·exact .inl
theorem Zrc (hr:Rel μ h w) {l l':List AV} {vs:List Value} (e:Yk h l=some l') (hl:RepL μ h w l vs):RepL (ZfP μ h) [] w l' vs :=
 RepL.pure _ _ (PRepL.keep (fun b o v hc hm=>⟨hc,fun hx=>hm (ZgU.1 hx)⟩) _ _ (Xd hr l l' vs e hl))
theorem Zoj (hr:Rel μ h w) {nl:Bool} {l l':List AV} {vs:List Value} (e:Zdy nl h l=some l') (hl:RepL μ h w l vs):RepL (ZfP μ h) [] w l' vs :=
 RepL.pure _ _ (PRepL.keep (fun b o v hc hm=>⟨hc,fun hx=>hm (ZgU.1 hx)⟩) _ _ (ZbX hr e hl))
mutual
/-- With no memory of our own a value hangs on none. -/
theorem Rep.no_own {μ:Mp Bs}:∀ (a:AV) (v:Value),Rep μ [] w a v→PRep (Mut μ []) w a v
 | .agg cs,_,r=>by
  obtain ⟨vs,hv,r⟩:=r
  exact ⟨vs,hv,RepL.no_own cs vs r⟩
 | .tup cs,_,r=>by
  obtain ⟨vs,hv,r⟩:=r
  exact ⟨vs,hv,RepL.no_own cs vs r⟩
 | .fn _ cs,_,r=>by
  obtain ⟨vs,hv,r⟩:=r
  exact ⟨vs,hv,RepL.no_own cs vs r⟩
 | .bnd _ cs,_,r=>by
  obtain ⟨vs,hv,r⟩:=r
  exact ⟨vs,hv,RepL.no_own cs vs r⟩
 | .iface _ a,_,r=>by
  obtain ⟨x,hv,r⟩:=r
  exact ⟨x,hv,Rep.no_own a x r⟩
 | .ptr _ _,_,r=>by obtain ⟨_,_,h1,_⟩:=r;simp at h1
 | .own _ _,_,r=>by obtain ⟨_,_,_,_,_,h1,_⟩:=r;simp at h1
 | .optr _ _ _ _,_,r=>by obtain ⟨_,_,_,_,h1,_⟩:=r;simp at h1
 | .int _ _,_,r=>r
 | .bool _,_,r=>r
 | .str _,_,r=>r
 | .nilp,_,r=>r
 | .nilf,_,r=>r
 | .nili,_,r=>r
 | .emp _,_,r=>r
 | .nilm,_,r=>r
 | .nils,_,r=>r
 | .rows _,_,r=>r
 | .lit _,_,r=>r
 | .rptr _ _,_,r=>r
 | .any,_,r=>r
theorem RepL.no_own {μ:Mp Bs}:∀ (l:List AV) (vs:List Value),RepL μ [] w l vs→PRepL (Mut μ []) w l vs
 | [],_,r=>r
 | a::r,_,x=>by
  obtain ⟨v,vr,hv,h1,h2⟩:=x
  exact ⟨v,vr,hv,Rep.no_own a v h1,RepL.no_own r vr h2⟩
end
theorem Ext.from_empty {μ':Mp Bs} {h1:Zd} {w':World} (e:Ext (ZfP μ h) [] w μ' h1 w'):Ext μ h w μ h w'∧∀ b,b < w.heap.size→w'.heap[b]? = w.heap[b]? := by
 have hb:∀ b,b < w.heap.size→w'.heap[b]? = w.heap[b]? := fun b hb=>(e.outside b hb fun l hl=>by simp at hl).1
 refine ⟨{
  out:=rfl
  still:=rfl
  os:=e.os
  tape:=e.tape
  output:=e.output
  size:=e.size
  keep:=fun b o v hc hm=>by
   have hlt:b < w.heap.size:=by
    by_cases hlt:b < w.heap.size
    ·exact hlt
    ·simp [World.cell?,Array.getElem?_eq_none (Nat.le_of_not_lt hlt)] at hc
   exact ⟨by simp only [World.cell?] at hc ⊢;rw [hb b hlt];exact hc,hm⟩
  outside:=fun b hlt ho=>⟨hb b hlt,ho⟩
  cells:=fun _ cs hl=>⟨⟨cs,hl⟩,rfl⟩
  len:=Nat.le_refl _
  maps:=fun _ es hl=>⟨⟨es,hl⟩,rfl⟩
  rows:=fun _ _ rs wr hl=>⟨rs,wr,hl,Nat.le_refl _,fun _=>rfl⟩
  sizes:=fun b vs T hc=>⟨vs,hc.eq (hb b hc.lt),rfl⟩ },hb⟩
theorem Rel.from_empty {μ':Mp Bs} {h1:Zd} {w':World} (hr:Rel μ h w) (e:Ext (ZfP μ h) [] w μ' h1 w'):Rel μ h w' :=
 hr.ext_same e.from_empty.1 fun _ b hl hm=>e.from_empty.2 b (hr.mapped hl hm)
theorem Rep.from_empty {μ':Mp Bs} {w':World} {a:AV} {v:Value} (e:Ext (ZfP μ h) [] w μ' [] w') (r:Rep μ' [] w' a v):Rep μ h w' a v:=by
 refine Rep.pure a v (PRep.keep ?_ a v (Rep.no_own a v r))
 intro b o v hc hm
 refine ⟨hc,fun hx=>hm (.inl ?_)⟩
 rw [e.out]
 exact hx
theorem Zi5 {c:Call} {f:Operand} {g:FuncId} {caps:Array Value} (ho:o.op=.call c) (hc:c.callee=.value f) (hf:a.eval f=.func (.func g) #[] caps) (he:Go.Proofs.Enters P g) :
  (execOp a.eval o).run P w=.ok (.enter g (c.args.map a.eval++caps)) w:=by
 simp only [execOp,ho,Sem.run_bind,resolve,hc,hf,Deferred.ofValue,Sem.run_pure,Result.andThen_ok,invoke,Array.empty_append]
 exact he _ _
theorem Zoh {c:Call} {f:Operand} {g:FuncId} {caps:List Value} {args:List AV} {h1:Zd} {r:AV} {μ1:Mp Bs} {h0:Zd} (ho:o.op=.call c) (hc:c.callee=.value f) (hf:a.eval f=.func (.func g) #[] caps.toArray)
  (he:Go.Proofs.Enters P g) (hcl:Yb Bs P g args h0 r h1) (hr:Rel μ1 h0 w) (ha:RepL μ1 h0 w args (c.args.toList.map a.eval++caps))
  (hx:∀ v μ2 w',Rel μ2 h1 w'→Ext μ1 h0 w μ2 h1 w'→Rep μ2 h1 w' r v→∃ μ',Rel μ' h' w'∧Ext μ h w μ' h' w'∧Rep μ' h' w' x v):Wa P o a μ h w x h':=by
 intro next Q hn
 unfold Oper.wp
 rw [Zi5 ho hc hf he,Oper.upon_enter]
 have e1:(c.args.map a.eval++caps.toArray)=(c.args.toList.map a.eval++caps).toArray:=by
  apply Array.ext';simp
 rw [e1]
 refine (hcl μ1 w _ hr ha).mono ?_
 rintro e w' ⟨v,μ2,rfl,h2,h3,h4⟩
 obtain ⟨μ',h5,h6,h7⟩:=hx v μ2 w' h2 h3 h4
 exact hn v μ' w' h5 h6 h7
theorem J2 {g:FuncId} {vs:List Value} {args:List AV} {h1:Zd} {r:AV} {μ1:Mp Bs} {h0:Zd} (hent:(execOp a.eval o).run P w=.ok (.enter g vs.toArray) w)
  (hcl:Yb Bs P g args h0 r h1) (hr:Rel μ1 h0 w) (ha:RepL μ1 h0 w args vs)
  (hx:∀ v μ2 w',Rel μ2 h1 w'→Ext μ1 h0 w μ2 h1 w'→Rep μ2 h1 w' r v→∃ μ',Rel μ' h' w'∧Ext μ h w μ' h' w'∧Rep μ' h' w' x v):Wa P o a μ h w x h':=by
 intro next Q hn
 unfold Oper.wp
 rw [hent,Oper.upon_enter]
 refine (hcl μ1 w _ hr ha).mono ?_
 rintro e w' ⟨v,μ2,rfl,h2,h3,h4⟩
 obtain ⟨μ',h5,h6,h7⟩:=hx v μ2 w' h2 h3 h4
 exact hn v μ' w' h5 h6 h7
theorem Zly {c:Call} {f:Operand} {g:FuncId} {caps:List Value} (ho:o.op=.call c) (hc:c.callee=.value f) (hf:a.eval f=.func (.func g) #[] caps.toArray) (he:Go.Proofs.Enters P g) :
  (execOp a.eval o).run P w=.ok (.enter g (c.args.toList.map a.eval++caps).toArray) w:=by
 rw [Zi5 ho hc hf he]
 have e1:(c.args.map a.eval++caps.toArray)=(c.args.toList.map a.eval++caps).toArray:=by
  apply Array.ext';simp
 rw [e1]
theorem Zi1 {c:Call} {f:Operand} {g:FuncId} {fs:List Value} (ho:o.op=.call c) (hc:c.callee=.value f) (hf:a.eval f=.func (.func g) fs.toArray #[]) (he:Go.Proofs.Enters P g) :
  (execOp a.eval o).run P w=.ok (.enter g (fs++c.args.toList.map a.eval).toArray) w:=by
 have e1:(fs.toArray++c.args.map a.eval++#[])=(fs++c.args.toList.map a.eval).toArray:=by
  apply Array.ext';simp
 rw [←e1]
 simp only [execOp,ho,Sem.run_bind,resolve,hc,hf,Deferred.ofValue,Sem.run_pure,Result.andThen_ok,invoke]
 exact he _ _
theorem Zq1 {f:Operand} {g:FuncId} {fs:List AV} {ev:Operand→AV} (he:XB μ h w ev a.eval) (hf:ev f=.bnd g fs):∃ vs:List Value,a.eval f=.func (.func g) vs.toArray #[]∧RepL μ h w fs vs:=by
 have:=he f
 rw [hf] at this
 exact this
theorem Zmo {f:Operand} {g:FuncId} {caps:List AV} {ev:Operand→AV} (he:XB μ h w ev a.eval) (hf:ev f=.fn g caps):∃ vs:List Value,a.eval f=.func (.func g) #[] vs.toArray∧RepL μ h w caps vs:=by
 have:=he f
 rw [hf] at this
 exact this
theorem ZjE {F:Tk→Res} (hF:X5 Bs P F) {c:Call} {f:Operand} {ev:Operand→AV} (hr:Rel μ h w) (he:XB μ h w ev a.eval) (ho:o.op=.call c) (hc:c.callee=.value f)
  (e:Zaj F h (evs ev c.args.toList) (ev f)=some x):Wa P o a μ h w x h:=by
 unfold Zaj at e
 split at e
 ·rename_i g caps hg
  obtain ⟨vs,hf,hcaps⟩:=Zmo he hg
  split at e
  ·rename_i pure hp
   unfold ZdC at e
   split at e
   ·rename_i r hFr
    simp only [Option.some.injEq] at e
    subst e
    obtain ⟨hen,hcl⟩:=hF _ _ _ _ _ hFr
    exact Zoh ho hc hf hen hcl hr.empty (Zrc hr hp ((Jf he c.args.toList).append hcaps)) fun v μ2 w' h2 h3 h4 =>
     ⟨μ,hr.from_empty h3,h3.from_empty.1,Rep.from_empty h3 h4⟩
   ·simp at e
  ·simp at e
 ·simp at e
theorem Wk {c:Call} {b:Builtin} (ho:o.op=.call c) (hc:c.callee=.builtin b) :
  execOp a.eval o=(do
   let d ←(pure { target:=.builtin b c.argTypes o.type (c.args.map fun | .const _=>true | _=>false),args:=c.args.map a.eval }:Sem Deferred)
   invoke d.target d.args):=by
 simp only [execOp,ho,resolve,hc]
 rfl
theorem Zfi {c:Call} {b:Builtin} {ev:Operand→AV} (hr:Rel μ h w) (he:XB μ h w ev a.eval) (ho:o.op=.call c) (hc:c.callee=.builtin b)
  (e:Zax P c.argTypes[0]? b (evs ev c.args.toList)=some x):Wa P o a μ h w x h:=by
 have hargs:=Jf he c.args.toList
 have hmap:c.args.map a.eval=(c.args.toList.map a.eval).toArray:=by apply Array.ext';simp
 unfold Zax at e
 split at e
 ·rename_i y hy
  rw [hy] at hargs
  obtain ⟨v,vr,hv,h1,h2⟩:=hargs
  have:vr=[]:=h2
  subst this
  cases ht:c.argTypes[0]? with
  | none=>simp [ht,tk?,ZqK] at e
  | some t =>
   simp only [ht,tk?] at e
   obtain ⟨u,h3,h4⟩:=ZlJ (P:=P) (t:=t) e h1 o.type
   intro next Q hn
   have hlen:(Builtin.len_ c.argTypes o.type (c.args.map a.eval)).run P w=.ok u w:=by
    rw [hmap,hv]
    have:Builtin.len_ c.argTypes o.type #[v]=Builtin.len_ #[t] o.type #[v]:=by simp [Builtin.len_,ht]
    rw [this];exact h3
   have hrun:(execOp a.eval o).run P w=.ok (.value u) w:=by
    rw [Wk ho hc]
    simp only [pure_bind,invoke,builtin,Sem.run_bind,hlen,Result.andThen_ok,Sem.run_pure]
   unfold Oper.wp
   rw [hrun]
   exact hn u μ w hr (Ext.refl _ _ _) h4
 ·rename_i y hy
  rw [hy] at hargs
  obtain ⟨v,vr,hv,h1,h2⟩:=hargs
  have:vr=[]:=h2
  subst this
  cases ht:c.argTypes[0]? with
  | none=>simp [ht,tk?,Zrg] at e
  | some t =>
   simp only [ht,tk?] at e
   obtain ⟨u,h3,h4⟩:=ZlK (P:=P) (t:=t) e h1 o.type
   intro next Q hn
   have hlen:(Builtin.cap_ c.argTypes o.type (c.args.map a.eval)).run P w=.ok u w:=by
    rw [hmap,hv]
    have:Builtin.cap_ c.argTypes o.type #[v]=Builtin.cap_ #[t] o.type #[v]:=by simp [Builtin.cap_,ht]
    rw [this];exact h3
   have hrun:(execOp a.eval o).run P w=.ok (.value u) w:=by
    rw [Wk ho hc]
    simp only [pure_bind,invoke,builtin,Sem.run_bind,hlen,Result.andThen_ok,Sem.run_pure]
   unfold Oper.wp
   rw [hrun]
   exact hn u μ w hr (Ext.refl _ _ _) h4
 ·obtain ⟨u,h3,h4⟩:=Zkz (P:=P) e hargs c.argTypes o.type
  intro next Q hn
  have hrun:(execOp a.eval o).run P w=.ok (.value u) w:=by
   rw [Wk ho hc]
   simp only [pure_bind,invoke,builtin,Sem.run_bind,hmap,h3,Result.andThen_ok,Sem.run_pure]
  unfold Oper.wp
  rw [hrun]
  exact hn u μ w hr (Ext.refl _ _ _) h4
 ·obtain ⟨u,h3,h4⟩:=Zk1 (P:=P) e hargs c.argTypes o.type
  intro next Q hn
  have hrun:(execOp a.eval o).run P w=.ok (.value u) w:=by
   rw [Wk ho hc]
   simp only [pure_bind,invoke,builtin,Sem.run_bind,hmap,h3,Result.andThen_ok,Sem.run_pure]
  unfold Oper.wp
  rw [hrun]
  exact hn u μ w hr (Ext.refl _ _ _) h4
 ·simp at e
theorem ZaW {C:Cfg} {F:Tk→Res} (hF:X5 Bs C.P F) {ev:Operand→AV} (hr:Rel μ h w) (he:XB μ h w ev a.eval) (e:ZH C F ev h o.op=some x):Wa C.P o a μ h w x h:=by
 cases ho:o.op with
 | move y =>
  simp only [ZH,ho,Option.some.injEq] at e
  subst e
  exact WU (by simp [execOp,ho]) hr (he y)
 | assign y =>
  simp only [ZH,ho,Option.some.injEq] at e
  subst e
  exact WU (by simp [execOp,ho]) hr (he y)
 | pick c p q =>
  simp only [ZH,ho] at e
  obtain ⟨t,h1,h2⟩:=Zld e (he c) (he p) (he q)
  refine WU (v:=if t then a.eval p else a.eval q) ?_ hr h2
  simp [execOp,ho,h1,asBool]
 | build t parts =>
  simp only [ZH,ho] at e
  exact YC (by simp only [execOp,ho]) hr (Zi6 he e)
 | buildSlice t n parts =>
  simp only [ZH,ho] at e
  split at e
  ·rename_i z b hes
   exact ZbV (by simp only [execOp,ho]) (Zda hr he hes e)
  ·simp at e
 | load t y =>
  simp only [ZH,ho] at e
  exact YC (by simp only [execOp,ho]) hr (ZdT hr e (he y))
 | nilCheck y =>
  simp only [ZH,ho] at e
  obtain ⟨h1,h2⟩:=Zfs e (he y)
  refine WU (v:=a.eval y) ?_ hr h2
  rcases h1 with ⟨p,hp⟩ | ⟨f,cs,hp⟩
  ·simp [execOp,ho,hp]
  ·simp [execOp,ho,hp]
 | binOp op t p q t' =>
  simp only [ZH,ho] at e
  cases hb:Zrt C.P op t (Wx p||Wx q) (ev p) (ev q) with
  | some v =>
   simp only [hb,orV,Option.some.injEq] at e
   subst e
   exact YC (by simp only [execOp,ho]) hr (ZkE (ty:=t) op rfl hb (he p) (he q))
  | none =>
   simp only [hb,orV] at e
   exact YC (by simp only [execOp,ho]) hr (ZjT (ty:=t) (x:=p) (y:=q) (Zrf q h) op e (he p) (he q))
 | unOp op t p =>
  simp only [ZH,ho] at e
  exact YC (by simp only [execOp,ho]) hr (ZnE e (he p))
 | convert t u y =>
  simp only [ZH,ho] at e
  exact ZbV (by simp only [execOp,ho]) (Zgb hr e (he y))
 | makeInterface t y =>
  simp only [ZH,ho] at e
  exact YC (by simp only [execOp,ho]) hr (Zjb e (he y))
 | makeFunc f first captured =>
  cases f with
  | func g =>
   simp only [ZH,ho] at e
   split at e
   ·rename_i h0
    simp only [Option.some.injEq] at e
    subst e
    refine WU (v:=.func (.func g) #[] (captured.toList.map a.eval).toArray) ?_ hr ⟨_,rfl,Jf he _⟩
    have h1:first.map a.eval=#[]:=by
     have:first=#[]:=Array.eq_empty_of_size_eq_zero h0
     rw [this];simp
    have h2:captured.map a.eval=(captured.toList.map a.eval).toArray:=by apply Array.ext';simp
    simp only [execOp,ho,Instr.makeFunc,h1,h2,pure_bind]
   ·split at e
    ·rename_i h0
     simp only [Option.some.injEq] at e
     subst e
     refine WU (v:=.func (.func g) (first.toList.map a.eval).toArray #[]) ?_ hr ⟨_,rfl,Jf he _⟩
     have h1:captured.map a.eval=#[]:=by
      have:captured=#[]:=Array.eq_empty_of_size_eq_zero h0
      rw [this];simp
     have h2:first.map a.eval=(first.toList.map a.eval).toArray:=by apply Array.ext';simp
     simp only [execOp,ho,Instr.makeFunc,h1,h2,pure_bind]
    ·simp at e
  | _=>simp [ZH,ho] at e
 | slice t y lo hi mx =>
  cases mx with
  | none =>
   simp only [ZH,ho] at e
   cases ht:tk C.P t with
   | str =>
    simp only [ht,Zac] at e
    exact YC (by simp only [execOp,ho,Option.map_none]) hr (Zhg ht e (he y) (Za9 he lo) (Za9 he hi))
   | slice z b =>
    simp only [ht,Zac] at e
    exact YC (by simp only [execOp,ho,Option.map_none]) hr (ZhC ht hr e (he y) (Za9 he lo) (Za9 he hi))
   | arr n =>
    simp only [ht,Zac] at e
    exact YC (by simp only [execOp,ho,Option.map_none]) hr (Zfz ht e (he y) (Za9 he lo) (Za9 he hi))
   | other=>simp [ht,Zac] at e
  | some _=>simp [ZH,ho] at e
 | fieldAddr t y f =>
  simp only [ZH,ho] at e
  exact YC (by simp only [execOp,ho]) hr (Zhr e (he y))
 | field t y f =>
  simp only [ZH,ho] at e
  exact YC (by simp only [execOp,ho]) hr (ZhY e (he y))
 | indexAddr t y i =>
  simp only [ZH,ho] at e
  exact YC (by simp only [execOp,ho]) hr (Zhc e (he y) (he i))
 | index t y i =>
  simp only [ZH,ho] at e
  exact YC (by simp only [execOp,ho]) hr (Zhy e (he y) (he i))
 | lookup t y i ok =>
  simp only [ZH,ho] at e
  exact YC (by simp only [execOp,ho]) hr (Zg8 hr e (he y) (he i))
 | extract y i =>
  simp only [ZH,ho] at e
  exact YC (by simp only [execOp,ho]) hr (Zf8 e (he y))
 | call c =>
  simp only [ZH,ho,QC] at e
  split at e
  ·rename_i f hc
   exact ZjE hF hr he ho hc e
  ·rename_i b hc
   exact Zfi hr he ho hc e
  ·simp at e
 | _=>simp [ZH,ho] at e
end
section
variable {Bs:World→Prop}
def Mp.set (μ:Mp Bs) (l:Nat) (b:Option Nat):Mp Bs:=⟨fun i=>if i=l then b else μ i,μ.out,μ.still⟩
end
section
variable {Bs:World→Prop}
variable {P:Program} {μ:Mp Bs} {h:Zd} {w:World} {a:Act} {o:Oper} {x:AV}
theorem J1 {b:Nat} {y:Obj} (hb:w.heap[b]? = some y):b < w.heap.size:=(Array.getElem?_eq_some_iff.1 hb).1
theorem Zcu {b o:Nat} {v:Value} (hc:w.cell? ⟨b,o,none⟩=some v):b < w.heap.size:=by
 by_cases hlt:b < w.heap.size
 ·exact hlt
 ·simp [World.cell?,Array.getElem?_eq_none (Nat.le_of_not_lt hlt)] at hc
theorem YV {b:Nat} (y:Obj) (hb:b < w.heap.size):(w.alloc y).heap[b]? = w.heap[b]? := by
 simp only [World.alloc];rw [Array.getElem?_push,if_neg (by omega)]
theorem YH (y:Obj):(w.alloc y).heap[w.heap.size]? = some y:=by
 show (w.heap.push y)[w.heap.size]? = some y
 simp
def grow (w:World):Option Obj→World
 | some y=>w.alloc y
 | none=>w
theorem ZcZ {b:Nat} (ob:Option Obj) (hb:b < w.heap.size):(grow w ob).heap[b]? = w.heap[b]? := by
 cases ob with
 | none=>rfl
 | some y=>exact YV y hb
theorem ZoC (ob:Option Obj):w.heap.size≤(grow w ob).heap.size:=by
 cases ob with
 | none=>exact Nat.le_refl _
 | some y=>show _≤(w.alloc y).heap.size;simp
theorem Zv (l:Nat) (b:Option Nat):(μ.set l b) l=b:=by simp [Mp.set]
theorem Zj {l i:Nat} (b:Option Nat) (hi:i≠l):(μ.set l b) i=μ i:=by simp [Mp.set,hi]
theorem Ext.push (hr:Rel μ h w) (k:Blk) (ob:Option Obj):Ext μ h w (μ.set h.length (ob.map fun _=>w.heap.size)) (h++[k]) (grow w ob) where
 out:=rfl
 still:=rfl
 os:=by cases ob<;>rfl
 tape:=by cases ob<;>rfl
 output:=by cases ob<;>rfl
 size:=ZoC ob
 len:=by simp
 maps:=fun l es hl=>by
  have hlt:=(List.getElem?_eq_some_iff.1 hl).1
  exact ⟨⟨es,by rw [List.getElem?_append_left hlt];exact hl⟩,Zj _ (by omega)⟩
 keep:=fun b o v hc hm=>by
  have hlt:=Zcu hc
  refine ⟨?_,?_⟩
  ·simp only [World.cell?] at hc ⊢;rw [ZcZ ob hlt];exact hc
  ·rintro (ho | ⟨l,k',hl,hm',ho⟩)
   ·exact hm (.inl ho)
   ·by_cases hll:l=h.length
    ·subst hll
     rw [Zv] at hm'
     cases ob with
     | none=>simp at hm'
     | some y=>simp at hm';omega
    ·rw [Zj _ hll] at hm'
     have hl2:l < h.length:=by
      have:=(List.getElem?_eq_some_iff.1 hl).1
      simp at this;omega
     rw [List.getElem?_append_left hl2] at hl
     exact hm (.inr ⟨l,k',hl,hm',ho⟩)
 outside:=fun b hb ho=>by
  refine ⟨ZcZ ob hb,fun l hl=>?_⟩
  by_cases hll:l=h.length
  ·subst hll
   rw [Zv]
   cases ob with
   | none=>simp
   | some y=>simp;omega
  ·rw [Zj _ hll]
   exact ho l (by simp at hl;omega)
 cells:=fun l cs hl=>by
  have hlt:=(List.getElem?_eq_some_iff.1 hl).1
  exact ⟨⟨cs,by rw [List.getElem?_append_left hlt];exact hl⟩,Zj _ (by omega)⟩
 rows:=fun l z rs wr hl=>by
  have hlt:=(List.getElem?_eq_some_iff.1 hl).1
  exact ⟨rs,wr,by rw [List.getElem?_append_left hlt];exact hl,Nat.le_refl _,fun _=>Zj _ (by omega)⟩
 sizes:=fun b vs T hb=>⟨vs,hb.eq (ZcZ ob hb.lt),rfl⟩
theorem Rel.push (hr:Rel μ h w) (k:Blk) (ob:Option Obj)
  (hk:ZfF (μ.set h.length (ob.map fun _=>w.heap.size)) (h++[k]) (grow w ob) h.length k) :
  Rel (μ.set h.length (ob.map fun _=>w.heap.size)) (h++[k]) (grow w ob) where
 inj:=fun l l' b hl hl' hm hm'=>by
  simp only [List.length_append,List.length_singleton] at hl hl'
  by_cases h1:l=h.length<;>by_cases h2:l'=h.length
  ·omega
  ·subst h1
   rw [Zv] at hm
   rw [Zj _ h2] at hm'
   cases ob with
   | none=>simp at hm
   | some y =>
    simp at hm
    have:=hr.mapped (by omega) hm'
    omega
  ·subst h2
   rw [Zv] at hm'
   rw [Zj _ h1] at hm
   cases ob with
   | none=>simp at hm'
   | some y =>
    simp at hm'
    have:=hr.mapped (by omega) hm
    omega
  ·rw [Zj _ h1] at hm
   rw [Zj _ h2] at hm'
   exact hr.inj l l' b (by omega) (by omega) hm hm'
 blk:=fun l k' hl=>by
  by_cases h1:l=h.length
  ·subst h1
   simp at hl
   subst hl
   exact hk
  ·have hlt:l < h.length:=by
    have:=(List.getElem?_eq_some_iff.1 hl).1
    simp at this;omega
   rw [List.getElem?_append_left hlt] at hl
   have e:=Ext.push hr k ob
   have hsame:∀ b,b < w.heap.size→(grow w ob).heap[b]? = w.heap[b]? := fun b hb=>ZcZ ob hb
   have:=hr.blk l k' hl
   cases k' with
   | cells cs =>
    obtain ⟨b,vs,T,h3,h4,h5,h6⟩:=this
    exact ⟨b,vs,T,by rw [Zj _ h1];exact h3,by rw [hsame b (J1 h4)];exact h4,h5,RepL.ext e cs vs h6⟩
   | rows z rs wr =>
    rcases this with ⟨h3,h4⟩ | ⟨b,vs,T,h3,h4,h5,h6⟩
    ·exact .inl ⟨h3,by rw [Zj _ h1];exact h4⟩
    ·exact .inr ⟨b,vs,T,by rw [Zj _ h1];exact h3,h4.eq (hsame b h4.lt),h5,h6.ext e⟩
   | hole =>
    show (μ.set h.length (ob.map fun _=>w.heap.size)) l=none
    rw [Zj _ h1];exact this
   | map es =>
    obtain ⟨b,ms,c,h3,h4,h5⟩:=this
    exact ⟨b,ms,c,by rw [Zj _ h1];exact h3,by rw [hsame b (J1 h4)];exact h4,h5.keep e.keep⟩
 apart:=fun l b o hl hm ho=>by
  by_cases h1:l=h.length
  ·subst h1
   rw [Zv] at hm
   have:=hr.old b o ho
   cases ob with
   | none=>simp at hm
   | some y=>simp at hm;omega
  ·rw [Zj _ h1] at hm
   exact hr.apart l b o (by simp at hl;omega) hm ho
 old:=fun b o ho=>Nat.lt_of_lt_of_le (hr.old b o ho) (Ext.push hr k ob).size
 still:=(hr.carry (Ext.push hr k ob)).1
 base:=(hr.carry (Ext.push hr k ob)).2
theorem QS (t:TypeId) (v:Value):(newVar t v).run P w=.ok ⟨w.heap.size,0,none⟩ (w.alloc (.cells v.cells t)):=rfl
theorem Zfd {t:TypeId} {v:Value} {y:AV} {h':Zd} (hr:Rel μ h w) (e:alloc h (some y)=some (x,h')) (hy:Rep μ h w y v)
  (hrun:(execOp a.eval o).run P w=.ok (.value (.pointer (some ⟨w.heap.size,0,none⟩))) (w.alloc (.cells v.cells t))):Wa P o a μ h w x h':=by
 simp only [Go.Ab.alloc] at e
 split at e
 ·rename_i cs hcs
  simp only [Option.some.injEq,Prod.mk.injEq] at e
  obtain ⟨rfl,rfl⟩:=e
  obtain ⟨hs,hl⟩:=Xe hcs hy
  intro next Q hn
  unfold Oper.wp
  rw [hrun]
  have hp:=Ext.push hr (.cells cs) (some (.cells v.cells t))
  refine hn _ (μ.set h.length (some w.heap.size)) (w.alloc (.cells v.cells t)) (Rel.push hr (.cells cs) (some (.cells v.cells t)) ?_) hp ?_
  ·exact ⟨w.heap.size,v.cells.toList,t,Zv _ _,by rw [Array.toArray_toList];exact YH _,hs,RepL.ext hp cs _ hl⟩
  ·exact ⟨cs,w.heap.size,by simp,Zv _ _,rfl⟩
 ·simp at e
theorem ZjB {t:TypeId} {v:Value} {y:AV} {h':Zd} (hr:Rel μ h w) (e:tyP t (alloc h (some y))=some (x,h')) (hy:Rep μ h w y v)
  (hrun:(execOp a.eval o).run P w=.ok (.value (.pointer (some ⟨w.heap.size,0,none⟩))) (w.alloc (.cells v.cells t))):Wa P o a μ h w x h':=by
 simp only [Go.Ab.alloc] at e
 cases hcs:cellsOf y with
 | none=>simp [hcs,tyP] at e
 | some cs =>
  simp only [hcs,tyP,Option.some.injEq,Prod.mk.injEq] at e
  obtain ⟨rfl,rfl⟩:=e
  obtain ⟨hs,hl⟩:=Xe hcs hy
  intro next Q hn
  unfold Oper.wp
  rw [hrun]
  have hp:=Ext.push hr (.cells cs) (some (.cells v.cells t))
  refine hn _ (μ.set h.length (some w.heap.size)) (w.alloc (.cells v.cells t)) (Rel.push hr (.cells cs) (some (.cells v.cells t)) ?_) hp ?_
  ·exact ⟨w.heap.size,v.cells.toList,t,Zv _ _,by rw [Array.toArray_toList];exact YH _,hs,RepL.ext hp cs _ hl⟩
  ·exact ⟨cs,w.heap.size,by simp,Zv _ _,rfl,v.cells,⟨_,YH _⟩⟩
def Zqa:Blk→Blk→Prop
 | .cells _,.cells _=>True
 | .rows z rs _,.rows z' rs' _=>z=z'∧rs.length≤rs'.length
 | _,_=>False
theorem Ext.update {l b:Nat} {k k':Blk} {vs vs':Array Value} {T:TypeId} {fz fz':Nat×Nat} {w':World} (hr:Rel μ h w) (hl:h[l]? = some k) (hm:μ l=some b) (hb:w.heap[b]? = some (.cells vs T fz))
  (h1:w'.heap[b]? = some (.cells vs' T fz')) (h2:∀ b',b'≠b→w'.heap[b']? = w.heap[b']?) (h3:w'.os=w.os) (h4:w'.tape=w.tape) (h5:w'.output=w.output) (h6:w.heap.size≤w'.heap.size)
  (hsz:vs'.size=vs.size) (hkeep:∀ o v,vs[o]? = some v→¬k.open_ o→vs'[o]? = some v) (hopen:∀ o,k'.open_ o→k.open_ o) (hk:Zqa k k'):Ext μ h w μ (h.set l k') w' where
 out:=rfl
 still:=rfl
 os:=h3
 tape:=h4
 output:=h5
 size:=h6
 len:=by simp
 maps:=fun l' es hl'=>by
  refine ⟨?_,rfl⟩
  have hll:l < h.length:=(List.getElem?_eq_some_iff.1 hl).1
  by_cases hll':l=l'
  ·subst hll'
   rw [hl] at hl'
   simp only [Option.some.injEq] at hl'
   subst hl'
   exact hk.elim
  ·exact ⟨es,by rw [List.getElem?_set_ne hll'];exact hl'⟩
 keep:=fun b' o v hc hmu=>by
  have hll:l < h.length:=(List.getElem?_eq_some_iff.1 hl).1
  refine ⟨?_,?_⟩
  ·by_cases hbb:b'=b
   ·subst hbb
    have hno:¬k.open_ o:=fun ho=>hmu (.inr ⟨l,k,hl,hm,ho⟩)
    simp only [World.cell?,hb] at hc
    simp only [World.cell?,h1]
    exact hkeep o v (by simpa using hc) hno
   ·simp only [World.cell?] at hc ⊢
    rw [h2 b' hbb];exact hc
  ·rintro (ho | ⟨l',k2,hl2,hm2,ho⟩)
   ·exact hmu (.inl ho)
   ·by_cases hll':l=l'
    ·subst hll'
     rw [List.getElem?_set_self hll] at hl2
     simp only [Option.some.injEq] at hl2
     subst hl2
     exact hmu (.inr ⟨l,k,hl,hm2,hopen o ho⟩)
    ·rw [List.getElem?_set_ne hll'] at hl2
     exact hmu (.inr ⟨l',k2,hl2,hm2,ho⟩)
 outside:=fun b' hlt ho=>⟨h2 b' fun e=>by
   subst e
   exact ho l (List.getElem?_eq_some_iff.1 hl).1 hm,fun l' hl'=>ho l' (by simpa using hl')⟩
 cells:=fun l' cs hl'=>by
  refine ⟨?_,rfl⟩
  have hll:l < h.length:=(List.getElem?_eq_some_iff.1 hl).1
  by_cases hll':l=l'
  ·subst hll'
   rw [hl] at hl'
   simp only [Option.some.injEq] at hl'
   subst hl'
   cases k' with
   | cells cs'=>exact ⟨cs',by rw [List.getElem?_set_self hll]⟩
   | rows _ _ _=>exact hk.elim
   | hole=>exact hk.elim
   | map _=>exact hk.elim
  ·exact ⟨cs,by rw [List.getElem?_set_ne hll'];exact hl'⟩
 rows:=fun l' z rs wr hl'=>by
  have hll:l < h.length:=(List.getElem?_eq_some_iff.1 hl).1
  by_cases hll':l=l'
  ·subst hll'
   rw [hl] at hl'
   simp only [Option.some.injEq] at hl'
   subst hl'
   cases k' with
   | cells cs'=>exact hk.elim
   | hole=>exact hk.elim
   | map _=>exact hk.elim
   | rows z' rs' wr' =>
    obtain ⟨rfl,hle⟩:=hk
    exact ⟨rs',wr',by rw [List.getElem?_set_self hll],hle,fun _=>rfl⟩
  ·exact ⟨rs,wr,by rw [List.getElem?_set_ne hll'];exact hl',Nat.le_refl _,fun _=>rfl⟩
 sizes:=fun b' vs2 T2 hb2=>by
  by_cases hbb:b'=b
  ·subst hbb
   obtain ⟨fz2,hb2⟩:=hb2
   rw [hb] at hb2
   simp only [Option.some.injEq,Obj.cells.injEq] at hb2
   obtain ⟨rfl,rfl,_⟩:=hb2
   exact ⟨vs',⟨_,h1⟩,hsz⟩
  ·exact ⟨vs2,hb2.eq (h2 b' hbb),rfl⟩
theorem Rel.update {l b:Nat} {k k':Blk} {w':World} (hr:Rel μ h w) (hl:h[l]? = some k) (hm:μ l=some b) (h2:∀ b',b'≠b→w'.heap[b']? = w.heap[b']?)
  (e:Ext μ h w μ (h.set l k') w') (hnew:ZfF μ (h.set l k') w' l k'):Rel μ (h.set l k') w' where
 inj:=fun l1 l2 b' hl1 hl2=>hr.inj l1 l2 b' (by simpa using hl1) (by simpa using hl2)
 blk:=fun l' k2 hl'=>by
  have hll:l < h.length:=(List.getElem?_eq_some_iff.1 hl).1
  by_cases hll':l=l'
  ·subst hll'
   rw [List.getElem?_set_self hll] at hl'
   simp only [Option.some.injEq] at hl'
   subst hl'
   exact hnew
  ·rw [List.getElem?_set_ne hll'] at hl'
   have hlt:l' < h.length:=(List.getElem?_eq_some_iff.1 hl').1
   have hne:∀ b',μ l'=some b'→b'≠b:=fun b' hb' e=>by
    subst e
    exact hll' (hr.inj l l' b' hll hlt hm hb')
   have:=hr.blk l' k2 hl'
   cases k2 with
   | cells cs =>
    obtain ⟨b',vs,T,h3,h4,h5,h6⟩:=this
    exact ⟨b',vs,T,h3,by rw [h2 b' (hne b' h3)];exact h4,h5,RepL.ext e cs vs h6⟩
   | rows z rs wr =>
    rcases this with h0 | ⟨b',vs,T,h3,h4,h5,h6⟩
    ·exact .inl h0
    ·exact .inr ⟨b',vs,T,h3,h4.eq (h2 b' (hne b' h3)),h5,h6.ext e⟩
   | hole=>exact this
   | map es =>
    obtain ⟨b',ms,c,h3,h4,h5⟩:=this
    exact ⟨b',ms,c,h3,by rw [h2 b' (hne b' h3)];exact h4,h5.keep e.keep⟩
 apart:=fun l' b' o hl'=>hr.apart l' b' o (by simpa using hl')
 old:=fun b' o ho=>Nat.lt_of_lt_of_le (hr.old b' o ho) e.size
 still:=(hr.carry e).1
 base:=(hr.carry e).2
theorem Zke {c:AV} {v:Value} (hs:ZB c=true) (hc:Rep μ h w c v):v.oneCell'=true:=by
 cases c with
 | agg _=>simp [ZB] at hs
 | tup _=>simp [ZB] at hs
 | any=>simp [ZB] at hs
 | int k n=>have:v=_:=hc;subst this;rfl
 | bool b=>have:v=_:=hc;subst this;rfl
 | str s=>have:v=_:=hc;subst this;rfl
 | nilp=>have:v=_:=hc;subst this;rfl
 | nilf=>have:v=_:=hc;subst this;rfl
 | nili=>have:v=_:=hc;subst this;rfl
 | emp _=>obtain ⟨_,_,rfl,_⟩:=hc;rfl
 | nilm=>have:v=_:=hc;subst this;rfl
 | nils=>have:v=_:=hc;subst this;rfl
 | rows rs=>obtain ⟨b,c,rfl,_⟩:=hc;rfl
 | lit rs=>obtain ⟨b,rfl,_⟩:=hc;rfl
 | rptr r o=>obtain ⟨b,c,rfl,_⟩:=hc;rfl
 | fn f cs'=>obtain ⟨b,rfl,_⟩:=hc;rfl
 | bnd f cs'=>obtain ⟨b,rfl,_⟩:=hc;rfl
 | iface t a=>obtain ⟨b,rfl,_⟩:=hc;rfl
 | ptr l o=>obtain ⟨b,c,h1,h2,rfl⟩:=hc;rfl
 | own l n=>obtain ⟨_,_,_,_,_,_,_,rfl,_⟩:=hc;rfl
 | optr l n i o=>obtain ⟨_,_,_,_,_,_,rfl,_⟩:=hc;rfl
 | mp l=>obtain ⟨_,_,_,_,rfl⟩:=hc;rfl
 | tptr t l o=>obtain ⟨_,_,_,_,rfl,_⟩:=hc;rfl
 | town t l n=>obtain ⟨_,_,_,_,_,_,_,rfl,_⟩:=hc;rfl
theorem Zds:∀ {cs:List AV} {vs:List Value},Zl cs=true→RepL μ h w cs vs→∀ v∈vs,v.oneCell'=true
 | [],vs,_,r,v,hv=>by
  have:vs=[]:=r
  subst this
  simp at hv
 | c::cs,_,hs,r,v,hv=>by
  obtain ⟨u,vr,rfl,h1,h2⟩:=r
  simp only [Zl,Bool.and_eq_true] at hs
  rcases List.mem_cons.1 hv with rfl | hv
  ·exact Zke hs.1 h1
  ·exact Zds hs.2 h2 v hv
theorem ZoI {t:TypeId} {n:Nat} (e:YG P t=some n):(sizeOf t).run P w=.ok n w:=by
 unfold YG at e
 split at e
 ·rename_i i hi
  simp only [Option.some.injEq] at e
  simp [sizeOf,typeInfo,hi,e]
 ·simp at e
theorem Zgw {t:TypeId} {b p:Nat} {v:Value} {cur:Array Value} {T:TypeId} (hz:YG P t=some v.cells.toList.length) (hb:w.heap[b]? = some (.cells cur T (0,0))) (hl:p+v.cells.toList.length≤cur.size)
  (h1:∀ u∈v.cells.toList,u.oneCell'=true):(Instr.storeAt t (.pointer (some ⟨b,p,none⟩)) v).run P w=.ok () (w.setRow b (cur.toList.take p++v.cells.toList++cur.toList.drop (p+v.cells.toList.length)).toArray):=by
 have h2:=run_storeCells_at (P:=P) b p T v.cells.toList 0 cur w hb (by simpa using hl) h1
 have h3:v.cells.size=v.cells.toList.length:=by simp
 simp only [Instr.storeAt,Instr.sureAddr,pure_bind,storeVar,Sem.run_bind,ZoI hz,Result.andThen_ok,Sem.run_ite]
 rw [if_neg (by omega)]
 simpa using h2
theorem ZdB {h':Zd} {w':World} {μ':Mp Bs} (hrun:(execOp a.eval o).run P w=.ok .skip w') (hr:Rel μ' h' w') (he:Ext μ h w μ' h' w'):Wa P o a μ h w .any h':=by
 intro next Q hn
 unfold Oper.wp
 rw [hrun]
 exact hn undef μ' w' hr he trivial
theorem Qj (l us:List Value) (p i:Nat) (hp:p+us.length≤l.length):(l.take p++us++l.drop (p+us.length))[i]? = if i < p then l[i]? else if i < p+us.length then us[i - p]? else l[i]? := by
 have h1:(l.take p).length=p:=by simp;omega
 by_cases hi:i < p
 ·rw [if_pos hi,List.append_assoc,List.getElem?_append_left (by omega),List.getElem?_take,if_pos hi]
 ·rw [if_neg hi]
  by_cases hi2:i < p+us.length
  ·rw [if_pos hi2,List.append_assoc,List.getElem?_append_right (by omega),List.getElem?_append_left (by omega),h1]
  ·rw [if_neg hi2,List.getElem?_append_right (by simp;omega),List.getElem?_drop]
   congr 1
   simp
   omega
theorem Zd7 (hr:Rel μ h w) (a:AV) (v:Value) (r:Rep μ h w a v):Rep μ h w (Zj7 h a) v:=by
 unfold Zj7
 split
 ·rename_i x hx;exact Rep.pure _ _ (Y9 hr _ _ _ hx r)
 ·exact r
theorem ZkN {t:TypeId} {y z:Operand} {ev:Operand→AV} {h':Zd} (hr:Rel μ h w) (he:XB μ h w ev a.eval) (ho:o.op=.store t y z) (e:Zdd P t (ev y) (ev z) h=some h'):Wa P o a μ h w .any h':=by
 have hy:=he y
 have hz:=he z
 have hexec:execOp a.eval o=(do Instr.storeAt t (a.eval y) (a.eval z);pure .skip):=by simp only [execOp,ho]
 unfold Zdd at e
 split at e
 ·rename_i l p hev
  rw [hev] at hy
  split at e
  ·rename_i cs hl
   split at e
   ·rename_i ns hns
    split at e
    ·rename_i hc
     obtain ⟨hsz,hle⟩:=hc
     simp only [Option.some.injEq] at e
     subst e
     obtain ⟨hs1,hrl⟩:=Xe hns hz
     obtain ⟨cs',b,hl',hm,hv⟩:=hy
     obtain ⟨b',vs,T,hm',hw,hs2,hrl2⟩:=hr.blk l _ hl
     have:b'=b:=by rw [hm] at hm';simpa using hm'.symm
     subst this
     have hlen1:=hrl.len
     have hlen2:=hrl2.len
     have hle':p+(a.eval z).cells.toList.length≤vs.length:=by omega
     have hrun:=Zgw (P:=P) (t:=t) (b:=b') (p:=p) (v:=a.eval z) (cur:=vs.toArray) (T:=T) (w:=w) (by rw [hlen1];exact hsz) hw (by simpa using hle') (Zds hs1 hrl)
     have ex:Ext μ h w μ (h.set l (.cells (splice cs p ns))) (w.setRow b' (vs.take p++(a.eval z).cells.toList++vs.drop (p+(a.eval z).cells.toList.length)).toArray) :=
      Ext.update hr hl hm hw (setRow_heap w b' _ _ T _ hw) (fun b2 hb2=>setRow_other w b' b2 _ hb2) rfl rfl rfl (by simp)
       (by simp;simp at hle';omega) (fun _ _ _ hno=>absurd trivial hno) (fun _ _=>trivial) trivial
     refine ZdB (w':=w.setRow b' (vs.take p++(a.eval z).cells.toList++vs.drop (p+(a.eval z).cells.toList.length)).toArray) ?_ (Rel.update hr hl hm (fun b2 hb2=>setRow_other w b' b2 _ hb2) ex ?_) ex
     ·rw [hexec,hv]
      simp only [Sem.run_bind,hrun,Result.andThen_ok,Sem.run_pure]
     ·exact ⟨b',_,T,hm,setRow_heap w b' _ _ T _ hw,ZaJ p hs2 hs1,RepL.splice p (RepL.ext ex cs vs hrl2) (RepL.ext ex ns _ hrl)⟩
    ·simp at e
   ·simp at e
  ·simp at e
 ·rename_i l n i p hev
  rw [hev] at hy
  split at e
  ·rename_i sz rs hl
   ·split at e
    ·rename_i ns hns
     split at e
     ·rename_i hn
      split at e
      ·rename_i row hrow
       split at e
       ·rename_i hc
        obtain ⟨hsz,hle⟩:=hc
        simp only [Option.some.injEq] at e
        subst e
        obtain ⟨hs1,hrl⟩:=Xe hns (Zd7 hr _ _ hz)
        obtain ⟨z',rs',wr',b,hl',_,hv,hmm⟩:=hy
        rw [hl] at hl'
        simp only [Option.some.injEq,Blk.rows.injEq] at hl'
        obtain ⟨rfl,rfl,rfl⟩:=hl'
        have hm:=hmm hn.symm
        have hlen1:=hrl.len
        rcases hr.blk l _ hl with ⟨h0,_⟩ | ⟨b',vs,T,hm',hw,hlenv,hin⟩
        ·subst h0;simp at hrow
        ·have:b'=b:=by rw [hm] at hm';simpa using hm'.symm
         subst this
         obtain ⟨fz,hw,hfz⟩:=hw
         have hfz:fz=(0,0):=by
          rcases hfz with h | h
          ·exact h
          ·exact absurd h.1 (by simp)
         subst hfz
         obtain ⟨hr1,hr2,hr3⟩:=hin i row hrow
         have hi:i < rs.length:=(List.getElem?_eq_some_iff.1 hrow).1
         have hrowend:i*sz+sz≤rs.length*sz:=by rw [←Nat.succ_mul];exact Nat.mul_le_mul_right sz hi
         have hle':i*sz+p+(a.eval z).cells.toList.length≤vs.size:=by omega
         have hrun:=Zgw (P:=P) (t:=t) (b:=b') (p:=i*sz+p) (v:=a.eval z) (cur:=vs) (T:=T) (w:=w) (by rw [hlen1];exact hsz) hw hle' (Zds hs1 hrl)
         have hsize:(vs.toList.take (i*sz+p)++(a.eval z).cells.toList++vs.toList.drop (i*sz+p+(a.eval z).cells.toList.length)).toArray.size=vs.size:=by
          simp;simp at hle';omega
         have ex:Ext μ h w μ (h.set l (.rows sz (rs.set i (splice row p ns)) true)) (w.setRow b' (vs.toList.take (i*sz+p)++(a.eval z).cells.toList++vs.toList.drop (i*sz+p+(a.eval z).cells.toList.length)).toArray) :=
          Ext.update hr hl hm hw (setRow_heap w b' _ _ T _ hw) (fun b2 hb2=>setRow_other w b' b2 _ hb2) rfl rfl rfl (by simp)
           hsize (fun _ _ _ hno=>absurd (.inl rfl) hno) (fun _ _=>.inl rfl) ⟨rfl,by simp⟩
         refine ZdB (w':=w.setRow b' (vs.toList.take (i*sz+p)++(a.eval z).cells.toList++vs.toList.drop (i*sz+p+(a.eval z).cells.toList.length)).toArray) ?_ (Rel.update hr hl hm (fun b2 hb2=>setRow_other w b' b2 _ hb2) ex ?_) ex
         ·rw [hexec,hv]
          simp only [Sem.run_bind,hrun,Result.andThen_ok,Sem.run_pure]
         ·refine .inr ⟨b',_,T,hm,.free (setRow_heap w b' _ _ T _ hw),by rw [hsize];simpa using hlenv,?_⟩
          intro i2 row2 hrow2
          have hget:=Qj vs.toList (a.eval z).cells.toList (i*sz+p)
          by_cases hii:i=i2
          ·subst hii
           rw [List.getElem?_set_self hi] at hrow2
           simp only [Option.some.injEq] at hrow2
           subst hrow2
           refine ⟨by unfold splice;simp;omega,ZaJ p hr2 hs1,fun c a' hc=>?_⟩
           have hcl:c < row.length:=by
            have:=(List.getElem?_eq_some_iff.1 hc).1
            unfold splice at this;simp at this;omega
           simp only [List.getElem?_toArray]
           rw [hget _ (by simpa using hle')]
           unfold splice at hc
           by_cases hc1:c < p
           ·rw [if_pos (by omega)]
            rw [List.append_assoc,List.getElem?_append_left (by simp;omega),List.getElem?_take,if_pos hc1] at hc
            obtain ⟨u,h7,h8⟩:=hr3 c a' hc
            exact ⟨u,by simpa using h7,Rep.ext ex a' u h8⟩
           ·rw [if_neg (by omega)]
            by_cases hc2:c < p+ns.length
            ·rw [if_pos (by omega)]
             rw [List.append_assoc,List.getElem?_append_right (by simp;omega),List.getElem?_append_left (by simp;omega)] at hc
             obtain ⟨u,h7,h8⟩:=(RepL.at ns _ hrl).2 _ a' hc
             refine ⟨u,?_,Rep.ext ex a' u h8⟩
             rw [←h7]
             congr 1
             simp
             omega
            ·rw [if_neg (by omega)]
             rw [List.getElem?_append_right (by simp;omega),List.getElem?_drop] at hc
             have hc':row[c]? = some a':=by
              rw [←hc]
              congr 1
              simp
              omega
             obtain ⟨u,h7,h8⟩:=hr3 c a' hc'
             exact ⟨u,by simpa using h7,Rep.ext ex a' u h8⟩
          ·rw [List.getElem?_set_ne hii] at hrow2
           obtain ⟨h4,h5,h6⟩:=hin i2 row2 hrow2
           refine ⟨h4,h5,fun c a' hc=>?_⟩
           obtain ⟨u,h7,h8⟩:=h6 c a' hc
           refine ⟨u,?_,Rep.ext ex a' u h8⟩
           have hcl:c < sz:=by rw [←h4];exact (List.getElem?_eq_some_iff.1 hc).1
           simp only [List.getElem?_toArray]
           rw [hget _ (by simpa using hle')]
           have hdisj:i2*sz+c < i*sz+p∨i*sz+p+(a.eval z).cells.toList.length≤i2*sz+c:=by
            rcases Nat.lt_or_gt_of_ne hii with hlt | hlt
            ·right
             have:i*sz+sz≤i2*sz:=by rw [←Nat.succ_mul];exact Nat.mul_le_mul_right sz hlt
             omega
            ·left
             have:i2*sz+sz≤i*sz:=by rw [←Nat.succ_mul];exact Nat.mul_le_mul_right sz hlt
             omega
           rcases hdisj with hd | hd
           ·rw [if_pos hd];simpa using h7
           ·rw [if_neg (by omega),if_neg (by omega)];simpa using h7
       ·simp at e
      ·simp at e
     ·simp at e
    ·simp at e
  ·simp at e
 ·simp at e
theorem ZnD {M:Nat→Nat→Prop} {z b p:Nat} {rs:List (List AV)} (hp:PRows M w z b rs p) :
  ∃ flat:List Value,flat.length=rs.length*z∧(∀ j v,flat[j]? = some v→w.cell? ⟨b,p+j,none⟩=some v)∧RowsIn M w z rs flat.toArray:=by
 have hcell:∀ (i:Nat) (row:List AV),rs[i]? = some row→row.length=z∧Zl row=true∧∀ c a,row[c]? = some a→∃ v,w.cell? ⟨b,p+(i*z+c),none⟩=some v∧PRep M w a v:=by
  intro i row hrow
  obtain ⟨h1,h2,h3⟩:=PRows.at rs p hp i row hrow
  refine ⟨h1,h2,fun c a ha=>?_⟩
  obtain ⟨v,h4,_,h5⟩:=PMem.at row _ h3 c a ha
  exact ⟨v,by rw [←Nat.add_assoc];exact h4,h5⟩
 obtain ⟨flat,hl,hv⟩:=ZkF (fun j=>w.cell? ⟨b,j,none⟩) p (rs.length*z) fun j hj=>by
  have hz:0 < z:=by
   rcases Nat.eq_zero_or_pos z with h0 | h0
   ·subst h0;simp at hj
   ·exact h0
  have hi:j / z < rs.length:=(Nat.div_lt_iff_lt_mul hz).2 hj
  obtain ⟨h1,_,h3⟩:=hcell (j / z) _ (List.getElem?_eq_getElem hi)
  have hc:j % z < (rs[j / z]).length:=by rw [h1];exact Nat.mod_lt _ hz
  obtain ⟨v,h4,_⟩:=h3 (j % z) _ (List.getElem?_eq_getElem hc)
  refine ⟨v,?_⟩
  rwa [show j / z*z+j % z=j from by rw [Nat.mul_comm];exact Nat.div_add_mod j z] at h4
 refine ⟨flat,hl,hv,fun i row hrow=>?_⟩
 obtain ⟨h1,h2,h3⟩:=hcell i row hrow
 refine ⟨h1,h2,fun c a ha=>?_⟩
 obtain ⟨v,h4,h5⟩:=h3 c a ha
 refine ⟨v,?_,h5⟩
 have hi:i < rs.length:=(List.getElem?_eq_some_iff.1 hrow).1
 have hc:c < z:=by rw [←h1];exact (List.getElem?_eq_some_iff.1 ha).1
 have hlt:i*z+c < flat.length:=by
  rw [hl]
  have:i*z+z≤rs.length*z:=by rw [←Nat.succ_mul];exact Nat.mul_le_mul_right z hi
  omega
 have h6:=hv (i*z+c) _ (List.getElem?_eq_getElem hlt)
 rw [h4] at h6
 simp only [Option.some.injEq] at h6
 rw [List.getElem?_toArray,List.getElem?_eq_getElem hlt,h6]
theorem ZdY {z:Nat} {rs:List (List AV)} {flat:List Value} (hl:flat.length=rs.length*z) (hin:RowsN μ h w z rs flat.toArray):∀ v∈flat,v.oneCell'=true:=by
 intro v hv
 obtain ⟨j,hj⟩:=List.getElem?_of_mem hv
 have hjl:j < rs.length*z:=by rw [←hl];exact (List.getElem?_eq_some_iff.1 hj).1
 have hz:0 < z:=by
  rcases Nat.eq_zero_or_pos z with h0 | h0
  ·subst h0;simp at hjl
  ·exact h0
 have hi:j / z < rs.length:=(Nat.div_lt_iff_lt_mul hz).2 hjl
 obtain ⟨h1,h2,h3⟩:=hin (j / z) _ (List.getElem?_eq_getElem hi)
 have hc:j % z < (rs[j / z]).length:=by rw [h1];exact Nat.mod_lt _ hz
 obtain ⟨u,h4,h5⟩:=h3 (j % z) _ (List.getElem?_eq_getElem hc)
 rw [show j / z*z+j % z=j from by rw [Nat.mul_comm];exact Nat.div_add_mod j z] at h4
 simp only [List.getElem?_toArray,hj,Option.some.injEq] at h4
 subst h4
 have hs:ZB ((rs[j / z])[j % z])=true:=by
  have:∀ (l:List AV) (k:Nat) (hk:k < l.length),Zl l=true→ZB l[k]=true:=by
   intro l
   induction l with
   | nil=>intro k hk;simp at hk
   | cons y l ih =>
    intro k hk hs
    simp only [Zl,Bool.and_eq_true] at hs
    cases k with
    | zero=>exact hs.1
    | succ k=>exact ih k (by simpa using hk) hs.2
  exact this _ _ hc h2
 exact Zke hs h5
theorem RowsIn.append {M:Nat→Nat→Prop} {z:Nat} {rs ys:List (List AV)} {fl fy:List Value} {rest:List Value} (hl:fl.length=rs.length*z) (hr:RowsIn M w z rs fl.toArray) (hy:RowsIn M w z ys fy.toArray) :
  RowsIn M w z (rs++ys) (fl++fy++rest).toArray:=by
 intro i row hrow
 by_cases hi:i < rs.length
 ·rw [List.getElem?_append_left hi] at hrow
  obtain ⟨h1,h2,h3⟩:=hr i row hrow
  refine ⟨h1,h2,fun c a ha=>?_⟩
  obtain ⟨v,h4,h5⟩:=h3 c a ha
  refine ⟨v,?_,h5⟩
  simp only [List.getElem?_toArray] at h4 ⊢
  have:=(List.getElem?_eq_some_iff.1 h4).1
  rw [List.append_assoc,List.getElem?_append_left this];exact h4
 ·rw [List.getElem?_append_right (by omega)] at hrow
  obtain ⟨h1,h2,h3⟩:=hy _ row hrow
  refine ⟨h1,h2,fun c a ha=>?_⟩
  obtain ⟨v,h4,h5⟩:=h3 c a ha
  refine ⟨v,?_,h5⟩
  simp only [List.getElem?_toArray] at h4 ⊢
  have h6:=(List.getElem?_eq_some_iff.1 h4).1
  have h7:i*z=rs.length*z+(i - rs.length)*z:=by rw [←Nat.add_mul];congr 1;omega
  rw [List.append_assoc,List.getElem?_append_right (by omega),List.getElem?_append_left (by omega),←h4]
  congr 1
  omega
theorem RowsN.append {z:Nat} {rs ys:List (List AV)} {fl fy:List Value} {rest:List Value} (hl:fl.length=rs.length*z) (hr:RowsN μ h w z rs fl.toArray) (hy:RowsN μ h w z ys fy.toArray) :
  RowsN μ h w z (rs++ys) (fl++fy++rest).toArray:=by
 intro i row hrow
 by_cases hi:i < rs.length
 ·rw [List.getElem?_append_left hi] at hrow
  obtain ⟨h1,h2,h3⟩:=hr i row hrow
  refine ⟨h1,h2,fun c a ha=>?_⟩
  obtain ⟨v,h4,h5⟩:=h3 c a ha
  refine ⟨v,?_,h5⟩
  simp only [List.getElem?_toArray] at h4 ⊢
  have:=(List.getElem?_eq_some_iff.1 h4).1
  rw [List.append_assoc,List.getElem?_append_left this];exact h4
 ·rw [List.getElem?_append_right (by omega)] at hrow
  obtain ⟨h1,h2,h3⟩:=hy _ row hrow
  refine ⟨h1,h2,fun c a ha=>?_⟩
  obtain ⟨v,h4,h5⟩:=h3 c a ha
  refine ⟨v,?_,h5⟩
  simp only [List.getElem?_toArray] at h4 ⊢
  have h6:=(List.getElem?_eq_some_iff.1 h4).1
  have h7:i*z=rs.length*z+(i - rs.length)*z:=by rw [←Nat.add_mul];congr 1;omega
  rw [List.append_assoc,List.getElem?_append_right (by omega),List.getElem?_append_left (by omega),←h4]
  congr 1
  omega
theorem ZaL {z n b p:Nat} {len cap:Nat} {flat:List Value} (hl:flat.length=n*z) (hv:∀ j v,flat[j]? = some v→w.cell? ⟨b,p+j,none⟩=some v) (w1:World) (h1:w1.heap=w.heap) :
  (Builtin.firstCells z n (.slice (some ⟨b,p,none⟩) len cap)).run P w1=.ok flat.toArray w1:=by
 have:=run_loadCells_list (P:=P) w1 ⟨b,p,none⟩ flat fun j v hj=>by
  rw [Wt]
  have:=hv j v hj
  simpa only [World.cell?,h1] using this
 simp only [Builtin.firstCells,←hl]
 exact this
theorem ZgL (n:Nat):∀ (r c:Nat),256≤c→c≤2*n→Builtin.growBy n r c≤2*n
 | 0,c,_,h=>h
 | r+1,c,h1,h2=>by
  simp only [Builtin.growBy]
  split
  ·exact h2
  ·exact ZgL n r _ (by omega) (by omega)
theorem Zk8 {need cap:Nat} (hc:cap < need):Builtin.nextslicecap need cap≤2*need:=by
 unfold Builtin.nextslicecap
 split
 ·omega
 ·split
  ·omega
  ·exact ZgL need 4 cap (by omega) (by omega)
def Src (P:Program) (μ:Mp Bs) (h:Zd) (w:World) (z:Nat) (ys:List (List AV)) (v:Value):Prop :=
 ∃ base cap flat,v=.slice base ys.length cap∧List.length flat=ys.length*z∧RowsN μ h w z ys flat.toArray∧∀ w1:World,w1.heap=w.heap→(Builtin.firstCells z ys.length v).run P w1=.ok flat.toArray w1
def Zo3 (P:Program) (μ:Mp Bs) (h:Zd) (w:World) (z:Nat) (ys:List (List AV)) (v:Value):Prop :=
 ∃ flat,(∀ w1:World,(Builtin.lenOf v).run P w1=.ok ys.length w1)∧List.length flat=ys.length*z∧RowsN μ h w z ys flat.toArray∧∀ w1:World,w1.heap=w.heap→(Builtin.firstCells z ys.length v).run P w1=.ok flat.toArray w1
theorem Src.two {z:Nat} {ys:List (List AV)} {v:Value} (hs:Src P μ h w z ys v):Zo3 P μ h w z ys v:=by
 obtain ⟨base,cap,flat,rfl,h1,h2,h3⟩:=hs
 exact ⟨flat,fun _=>rfl,h1,h2,h3⟩
theorem Yw:∀ s:List UInt8,(Zx s).length=s.length
 | []=>rfl
 | b::r=>by simp [Zx,Yw r]
theorem J5:∀ (s:List UInt8) (i:Nat),(Zx s)[i]? = s[i]?.map fun b=>[.int .u8 (b.toNat:Int)]
 | [],i=>by simp [Zx]
 | b::r,0=>by simp [Zx]
 | b::r,i+1=>by simp only [Zx,List.getElem?_cons_succ];exact J5 r i
theorem ZsL {s:List UInt8}:Zo3 P μ h w 1 (Zx s) (.string ⟨s.toArray⟩):=by
 refine ⟨s.map fun b=>.int .u8 (b.toNat:Int),fun w1=>by rw [Yw];rfl,by simp [Yw],fun i row hrow=>?_,fun w1 _=>?_⟩
 ·rw [J5] at hrow
  cases hb:s[i]? with
  | none=>rw [hb] at hrow;simp at hrow
  | some b =>
   rw [hb] at hrow
   simp only [Option.map_some,Option.some.injEq] at hrow
   subst hrow
   refine ⟨rfl,rfl,fun c a ha=>?_⟩
   have hc:c=0:=by have:=(List.getElem?_eq_some_iff.1 ha).1;simp at this;exact this
   subst hc
   simp only [List.getElem?_cons_zero,Option.some.injEq] at ha
   subst ha
   exact ⟨.int .u8 (b.toNat:Int),by simp [hb],rfl⟩
 ·rw [Yw]
  have:s.length=(⟨s.toArray⟩:ByteArray).size:=rfl
  rw [this,Lib.run_firstCells_string]
  simp [Lib.strCells]
theorem Zdz {z:Nat} {ys:List (List AV)} {base:Option Addr} {cap:Nat} (hz:YB z ys=true) (hb:ys=[]∨∃ b p z',base=some ⟨b,p,none⟩∧PRows (Mut μ h) w z' b ys p):Src P μ h w z ys (.slice base ys.length cap):=by
 rcases hb with rfl | ⟨b,p,z',rfl,hp⟩
 ·refine ⟨base,cap,[],rfl,by simp,fun i row hrow=>by simp at hrow,fun w1 _=>?_⟩
  cases base with
  | none=>rfl
  | some ad =>
   simp only [Builtin.firstCells,List.length_nil,Nat.zero_mul]
   exact run_loadCells_list (P:=P) w1 ad [] fun j v hj=>by simp at hj
 ·cases ys with
  | nil =>
   refine ⟨_,cap,[],rfl,by simp,fun i row hrow=>by simp at hrow,fun w1 _=>?_⟩
   simp only [Builtin.firstCells,List.length_nil,Nat.zero_mul]
   exact run_loadCells_list (P:=P) w1 _ [] fun j v hj=>by simp at hj
  | cons y ys =>
   have hzz:z'=z:=by
    have h1:=(PRows.at _ p hp 0 y rfl).1
    have h2:=Qg hz 0 y rfl
    omega
   subst hzz
   obtain ⟨flat,h1,h2,h3⟩:=ZnD hp
   exact ⟨_,cap,flat,rfl,h1,h3.some,ZaL h1 h2⟩
theorem Zfe {l n z:Nat} {rs:List (List AV)} {wr:Bool} {v:Value} (hr:Rel μ h w) (hl:h[l]? = some (.rows z rs wr)) (hn:rs.length=n) (hv:OwnRep μ h w l n v) :
  ∃ base cap flat,v=.slice base rs.length cap∧rs.length≤cap∧List.length flat=rs.length*z∧RowsN μ h w z rs flat.toArray∧(∀ w1:World,w1.heap=w.heap→(Builtin.firstCells z rs.length v).run P w1=.ok flat.toArray w1) ∧
   ((cap=0∧rs=[])∨∃ b vs T,base=some ⟨b,0,none⟩∧μ l=some b∧RowAt w b vs T wr (rs.length*z)∧cap*z≤vs.size∧flat=vs.toList.take (rs.length*z)):=by
 obtain ⟨z',rs',wr',base,cap,hl',_,rfl,hv⟩:=hv
 rw [hl] at hl'
 simp only [Option.some.injEq,Blk.rows.injEq] at hl'
 obtain ⟨rfl,rfl,rfl⟩:=hl'
 obtain ⟨hc,_,hb⟩:=hv hn.symm
 rcases hb with rfl | ⟨b,vs,T,rfl,hm,hw,hcz⟩
 ·have h0:rs=[]:=List.length_eq_zero_iff.1 (by omega)
  subst h0
  have hn0:n=0:=by simpa using hn.symm
  subst hn0
  refine ⟨base,0,[],rfl,Nat.le_refl _,by simp,fun i row hrow=>by simp at hrow,fun w1 _=>?_,.inl ⟨rfl,rfl⟩⟩
  cases base with
  | none=>rfl
  | some ad =>
   simp only [Builtin.firstCells,List.length_nil,Nat.zero_mul]
   exact run_loadCells_list (P:=P) w1 ad [] fun j v hj=>by simp at hj
 ·have hlen:rs.length*z≤vs.size:=Nat.le_trans (Nat.mul_le_mul_right z (by omega)) hcz
  obtain ⟨fz,hw⟩:=hw
  have hin:(fz=(0,0)∨(wr=false∧fz.2≤rs.length*z))∧RowsN μ h w z rs (vs.toList.take (rs.length*z)).toArray:=by
   rcases hr.blk l _ hl with ⟨_,h0⟩ | ⟨b',vs',T',hm',⟨fz',hw',hfz⟩,_,hin⟩
   ·rw [hm] at h0;simp at h0
   ·have e:b'=b:=by rw [hm] at hm';simpa using hm'.symm
    subst e
    rw [hw] at hw'
    simp only [Option.some.injEq,Obj.cells.injEq] at hw'
    obtain ⟨rfl,rfl,rfl⟩:=hw'
    refine ⟨hfz,?_⟩
    intro i row hrow
    obtain ⟨h1,h2,h3⟩:=hin i row hrow
    refine ⟨h1,h2,fun c a ha=>?_⟩
    obtain ⟨u,h4,h5⟩:=h3 c a ha
    refine ⟨u,?_,h5⟩
    have hi:i < rs.length:=(List.getElem?_eq_some_iff.1 hrow).1
    have hcl:c < z:=by rw [←h1];exact (List.getElem?_eq_some_iff.1 ha).1
    have:i*z+z≤rs.length*z:=by rw [←Nat.succ_mul];exact Nat.mul_le_mul_right z hi
    simp only [List.getElem?_toArray]
    rw [List.getElem?_take,if_pos (by omega)]
    simpa using h4
  obtain ⟨hfz,hin⟩:=hin
  refine ⟨_,cap,vs.toList.take (rs.length*z),by rw [hn],by omega,by simp;omega,hin,?_,.inr ⟨b,vs,T,rfl,hm,⟨fz,hw,hfz⟩,hcz,rfl⟩⟩
  refine ZaL (by simp;omega) fun j v hj=>?_
  rw [List.getElem?_take] at hj
  split at hj
  ·simp only [World.cell?,hw,Nat.zero_add]
   simpa using hj
  ·simp at hj
def YT (w:World):World:={ w with drawn:=w.drawn+1 }
theorem JI (hr:Rel μ h w):Rel μ h (YT w):=hr.heap_eq rfl rfl rfl rfl
theorem drew_ext:Ext μ h w μ h (YT w):=Ext.heap_eq rfl rfl rfl rfl
def ZcO (P:Program) (u:TypeId):Prop:=(∃ e,P.underlying u=some (.slice e))∨P.underlying u=some .string
theorem Jd {at_:Array TypeId} {t u e ty:TypeId} {i:TypeInfo} {y src:Value} {base:Option Addr} {n k cap:Nat} {old new:List Value}
  (h0:at_[0]? = some t) (h1:at_[1]? = some u) (hu:P.underlying t=some (.slice e)) (hu':ZcO P u) (hi:P.info? e=some i) (hy:i.zero=some y)
  (hlen:∀ w:World,(Builtin.lenOf src).run P w=.ok k w) (hcap:cap < n+k) (hroom:(n+k)*(i.bytes+1)≤Zg) (hold:(Builtin.firstCells i.size n (.slice base n cap)).run P (YT w)=.ok old.toArray (YT w)) (hnew:(Builtin.firstCells i.size k src).run P (YT w)=.ok new.toArray (YT w)) :
  ∃ c,n+k≤c∧(Builtin.append_ at_ ty #[.slice base n cap,src]).run P w =
   .ok (.slice (some ⟨w.heap.size,0,none⟩) (n+k) c) ((YT w).alloc (.cells (old.toArray++new.toArray++Builtin.zeroCells y.cells (c - (n+k))) e)):=by
 have hb:¬(Builtin.nextslicecap (n+k) cap*i.bytes > 2 ^ 48):=by
  have h2:=Zk8 hcap
  have h3:Builtin.nextslicecap (n+k) cap*i.bytes≤2*(n+k)*(i.bytes+1):=Nat.mul_le_mul h2 (by omega)
  have h4:2*(n+k)*(i.bytes+1)=2*((n+k)*(i.bytes+1)):=by rw [Nat.mul_assoc]
  unfold Zg at hroom
  omega
 have hb2:¬(((n+k:Nat):Int) > IntKind.i64.max∧(False∨i.bytes=0)):=by
  have h5:n+k≤(n+k)*(i.bytes+1):=Nat.le_mul_of_pos_right _ (by omega)
  have:IntKind.i64.max=9223372036854775807:=by decide
  rw [this]
  unfold Zg at hroom
  omega
 obtain ⟨c,hc,hdraw⟩:∃ c,n+k≤c∧(choose (.appendCap (n+k) cap e)).run P w=.ok c (YT w):=by
  refine ⟨_,?_,by simp only [run_choose,Question.forced,Bool.false_eq_true,if_false];rfl⟩
  simp only [Question.cut]
  omega
 refine ⟨c,hc,?_⟩
 have hzv:∀ w:World,(zeroValue e).run P w=.ok y w:=fun w=>by simp [zeroValue,typeInfo,hi,hy]
 have hso:∀ w:World,(sizeOf e).run P w=.ok i.size w:=fun w=>by simp [sizeOf,typeInfo,hi]
 have hti:∀ w:World,(typeInfo e).run P w=.ok i w:=fun w=>by simp [typeInfo,hi]
 rcases hu' with ⟨e',hu'⟩ | hu'
 ·simp only [Builtin.append_,h0,h1,Sem.run_bind,run_underlying hu,run_underlying hu',Result.andThen_ok,Sem.run_pure,List.getElem?_toArray,List.getElem?_cons_zero,List.getElem?_cons_succ,hso,Bool.false_eq_true,if_false,hlen,Sem.run_ite,if_neg (Nat.not_le.2 hcap),hti,
   if_neg hb2,if_neg hb,hdraw,run_askRoom,hold,Bool.not_false,if_true,hnew,hzv,newRow,run_newObj]
  rfl
 ·simp only [Builtin.append_,h0,h1,Sem.run_bind,run_underlying hu,run_underlying hu',Result.andThen_ok,Sem.run_pure,List.getElem?_toArray,List.getElem?_cons_zero,List.getElem?_cons_succ,hso,Bool.false_eq_true,if_false,hlen,Sem.run_ite,if_neg (Nat.not_le.2 hcap),hti,
   if_neg hb2,if_neg hb,hdraw,run_askRoom,hold,Bool.not_false,if_true,hnew,hzv,newRow,run_newObj]
  rfl
theorem Qm {at_:Array TypeId} {t u e ty:TypeId} {i:TypeInfo} {src:Value} {base:Option Addr}
  (h0:at_[0]? = some t) (h1:at_[1]? = some u) (hu:P.underlying t=some (.slice e)) (hu':ZcO P u) (hi:P.info? e=some i)
  (hlen:∀ w:World,(Builtin.lenOf src).run P w=.ok 0 w) (hnew:(Builtin.firstCells i.size 0 src).run P w=.ok #[] w) :
  (Builtin.append_ at_ ty #[.slice base 0 0,src]).run P w=.ok (.slice base 0 0) w:=by
 have hso:∀ w:World,(sizeOf e).run P w=.ok i.size w:=fun w=>by simp [sizeOf,typeInfo,hi]
 have hst:∀ a:Addr,(storeCells a [] 0).run P w=.ok () w:=fun a=>rfl
 cases base<;>rcases hu' with ⟨e',hu'⟩ | hu'
 all_goals simp only [Builtin.append_,h0,h1,Sem.run_bind,run_underlying hu,run_underlying hu',Result.andThen_ok,Sem.run_pure,List.getElem?_toArray,List.getElem?_cons_zero,List.getElem?_cons_succ,hso,Bool.false_eq_true,if_false,hlen,Sem.run_ite,Nat.add_zero,Nat.le_refl,if_true,Bool.not_false,hnew,hst]
theorem Zd4 {at_:Array TypeId} {t u e ty T:TypeId} {i:TypeInfo} {src:Value} {b n k cap:Nat} {new:List Value} {vs:Array Value} {fz:Nat×Nat}
  (h0:at_[0]? = some t) (h1:at_[1]? = some u) (hu:P.underlying t=some (.slice e)) (hu':ZcO P u) (hi:P.info? e=some i)
  (hlen:∀ w:World,(Builtin.lenOf src).run P w=.ok k w) (hcap:n+k≤cap) (hb:w.heap[b]? = some (.cells vs T fz)) (hfz:fz.2≤n*i.size) (hsz:cap*i.size≤vs.size) (hl:new.length=k*i.size) (h1c:∀ v∈new,v.oneCell'=true)
  (hnew:(Builtin.firstCells i.size k src).run P w=.ok new.toArray w) :
  (Builtin.append_ at_ ty #[.slice (some ⟨b,0,none⟩) n cap,src]).run P w =
   .ok (.slice (some ⟨b,0,none⟩) (n+k) cap) (w.setRow b (vs.toList.take (n*i.size)++new++vs.toList.drop (n*i.size+new.length)).toArray):=by
 have hso:∀ w:World,(sizeOf e).run P w=.ok i.size w:=fun w=>by simp [sizeOf,typeInfo,hi]
 have hle:n*i.size+new.length≤vs.size:=by
  rw [hl,←Nat.add_mul]
  exact Nat.le_trans (Nat.mul_le_mul_right _ hcap) hsz
 have hst:=run_storeCells_atF P b (n*i.size) T fz new 0 vs w hb (by simpa using hfz) (by simpa using hle) h1c
 simp only [Nat.add_zero] at hst
 have hadd:(⟨b,0,none⟩:Addr).add (n*i.size)=⟨b,n*i.size,none⟩:=by rw [Wt,Nat.zero_add]
 rcases hu' with ⟨e',hu'⟩ | hu'
 ·simp only [Builtin.append_,h0,h1,Sem.run_bind,run_underlying hu,run_underlying hu',Result.andThen_ok,Sem.run_pure,List.getElem?_toArray,List.getElem?_cons_zero,List.getElem?_cons_succ,hso,Bool.false_eq_true,if_false,hlen,Sem.run_ite,hcap,if_true,Bool.not_false,hnew,hadd,hst]
 ·simp only [Builtin.append_,h0,h1,Sem.run_bind,run_underlying hu,run_underlying hu',Result.andThen_ok,Sem.run_pure,List.getElem?_toArray,List.getElem?_cons_zero,List.getElem?_cons_succ,hso,Bool.false_eq_true,if_false,hlen,Sem.run_ite,hcap,if_true,Bool.not_false,hnew,hadd,hst]
theorem ZiU {at_:Array TypeId} {t u e ty:TypeId} {i:TypeInfo} {src:Value} {base:Option Addr} {n cap:Nat}
  (h0:at_[0]? = some t) (h1:at_[1]? = some u) (hu:P.underlying t=some (.slice e)) (hu':ZcO P u) (hi:P.info? e=some i) (hc:n≤cap)
  (hlen:∀ w:World,(Builtin.lenOf src).run P w=.ok 0 w) (hnew:(Builtin.firstCells i.size 0 src).run P w=.ok #[] w) :
  (Builtin.append_ at_ ty #[.slice base n cap,src]).run P w=.ok (.slice base n cap) w:=by
 have hso:∀ w:World,(sizeOf e).run P w=.ok i.size w:=fun w=>by simp [sizeOf,typeInfo,hi]
 have hst:∀ a:Addr,(storeCells a []).run P w=.ok () w:=fun a=>by simp [storeCells]
 rcases hu' with ⟨e',hu'⟩ | hu'<;>cases base with
 | none=>simp only [Builtin.append_,h0,h1,Sem.run_bind,run_underlying hu,run_underlying hu',Result.andThen_ok,Sem.run_pure,List.getElem?_toArray,List.getElem?_cons_zero,List.getElem?_cons_succ,hso,Bool.false_eq_true,if_false,hlen,Sem.run_ite,Nat.add_zero,hc,if_true,Bool.not_false,hnew]
 | some a=>simp only [Builtin.append_,h0,h1,Sem.run_bind,run_underlying hu,run_underlying hu',Result.andThen_ok,Sem.run_pure,List.getElem?_toArray,List.getElem?_cons_zero,List.getElem?_cons_succ,hso,Bool.false_eq_true,if_false,hlen,Sem.run_ite,Nat.add_zero,hc,if_true,Bool.not_false,hnew,hst]
theorem Js {l:Nat} {k:Blk} (hl:h[l]? = some k):h.set l k=h:=by
 apply List.ext_getElem?
 intro i
 by_cases hi:l=i
 ·subst hi
  rw [List.getElem?_set_self (List.getElem?_eq_some_iff.1 hl).1];exact hl.symm
 ·rw [List.getElem?_set_ne hi]
theorem Ext.move {l z:Nat} {rs rs':List (List AV)} {wr:Bool} (hr:Rel μ h w) (hl:h[l]? = some (.rows z rs wr)) (hlt:rs.length < rs'.length) (y:Obj) :
  Ext μ h w (μ.set l (some w.heap.size)) (h.set l (.rows z rs' wr)) (w.alloc y) where
 out:=rfl
 still:=rfl
 os:=rfl
 tape:=rfl
 output:=rfl
 size:=by show _≤(w.alloc y).heap.size;simp
 keep:=fun b o v hc hm=>by
  have hb:=Zcu hc
  refine ⟨by simp only [World.cell?] at hc ⊢;rw [YV y hb];exact hc,?_⟩
  rintro (ho | ⟨l',k',hl',hm',ho⟩)
  ·exact hm (.inl ho)
  ·by_cases hll:l'=l
   ·subst hll
    rw [Zv] at hm'
    simp only [Option.some.injEq] at hm'
    omega
   ·rw [Zj _ hll] at hm'
    rw [List.getElem?_set_ne (fun e=>hll e.symm)] at hl'
    exact hm (.inr ⟨l',k',hl',hm',ho⟩)
 outside:=fun b hb ho=>by
  refine ⟨YV y hb,fun l' hl'=>?_⟩
  by_cases hll:l'=l
  ·subst hll
   rw [Zv]
   simp
   omega
  ·rw [Zj _ hll]
   exact ho l' (by simpa using hl')
 len:=by simp
 maps:=fun l' es hl'=>by
  have hll:l≠l':=fun e=>by subst e;rw [hl] at hl';simp at hl'
  exact ⟨⟨es,by rw [List.getElem?_set_ne hll];exact hl'⟩,Zj _ (fun e=>hll e.symm)⟩
 cells:=fun l' cs hl'=>by
  have hll:l≠l':=fun e=>by subst e;rw [hl] at hl';simp at hl'
  exact ⟨⟨cs,by rw [List.getElem?_set_ne hll];exact hl'⟩,Zj _ (fun e=>hll e.symm)⟩
 rows:=fun l' z' rs2 wr2 hl'=>by
  by_cases hll:l=l'
  ·subst hll
   rw [hl] at hl'
   simp only [Option.some.injEq,Blk.rows.injEq] at hl'
   obtain ⟨rfl,rfl,rfl⟩:=hl'
   exact ⟨rs',wr,by rw [List.getElem?_set_self (List.getElem?_eq_some_iff.1 hl).1],by omega,fun e=>by omega⟩
  ·exact ⟨rs2,wr2,by rw [List.getElem?_set_ne hll];exact hl',Nat.le_refl _,fun _=>Zj _ (fun e=>hll e.symm)⟩
 sizes:=fun b vs T hb=>⟨vs,hb.eq (YV y hb.lt),rfl⟩
theorem Rel.move {l z:Nat} {rs rs':List (List AV)} {wr:Bool} (hr:Rel μ h w) (hl:h[l]? = some (.rows z rs wr)) (hlt:rs.length < rs'.length) (y:Obj)
  (hk:ZfF (μ.set l (some w.heap.size)) (h.set l (.rows z rs' wr)) (w.alloc y) l (.rows z rs' wr)):Rel (μ.set l (some w.heap.size)) (h.set l (.rows z rs' wr)) (w.alloc y) where
 inj:=fun l1 l2 b hl1 hl2 hm1 hm2=>by
  simp only [List.length_set] at hl1 hl2
  by_cases h1:l1=l<;>by_cases h2:l2=l
  ·omega
  ·subst h1
   rw [Zv] at hm1
   rw [Zj _ h2] at hm2
   simp only [Option.some.injEq] at hm1
   have:=hr.mapped hl2 hm2
   omega
  ·subst h2
   rw [Zv] at hm2
   rw [Zj _ h1] at hm1
   simp only [Option.some.injEq] at hm2
   have:=hr.mapped hl1 hm1
   omega
  ·rw [Zj _ h1] at hm1
   rw [Zj _ h2] at hm2
   exact hr.inj l1 l2 b hl1 hl2 hm1 hm2
 blk:=fun l' k' hl'=>by
  have e:=Ext.move hr hl hlt y
  by_cases hll:l=l'
  ·subst hll
   rw [List.getElem?_set_self (List.getElem?_eq_some_iff.1 hl).1] at hl'
   simp only [Option.some.injEq] at hl'
   subst hl'
   exact hk
  ·rw [List.getElem?_set_ne hll] at hl'
   have:=hr.blk l' k' hl'
   have hne:l'≠l:=fun e=>hll e.symm
   cases k' with
   | cells cs =>
    obtain ⟨b,vs,T,h3,h4,h5,h6⟩:=this
    exact ⟨b,vs,T,by rw [Zj _ hne];exact h3,by rw [YV y (J1 h4)];exact h4,h5,RepL.ext e cs vs h6⟩
   | rows z rs wr =>
    rcases this with ⟨h3,h4⟩ | ⟨b,vs,T,h3,h4,h5,h6⟩
    ·exact .inl ⟨h3,by rw [Zj _ hne];exact h4⟩
    ·exact .inr ⟨b,vs,T,by rw [Zj _ hne];exact h3,h4.eq (YV y h4.lt),h5,h6.ext e⟩
   | hole =>
    show (μ.set l (some w.heap.size)) l'=none
    rw [Zj _ hne];exact this
   | map es =>
    obtain ⟨b,ms,c,h3,h4,h5⟩:=this
    exact ⟨b,ms,c,by rw [Zj _ hne];exact h3,by rw [YV y (J1 h4)];exact h4,h5.keep e.keep⟩
 apart:=fun l' b o hl' hm ho=>by
  by_cases h1:l'=l
  ·subst h1
   rw [Zv] at hm
   simp only [Option.some.injEq] at hm
   have:=hr.old b o ho
   omega
  ·rw [Zj _ h1] at hm
   exact hr.apart l' b o (by simpa using hl') hm ho
 old:=fun b o ho=>Nat.lt_of_lt_of_le (hr.old b o ho) (Ext.move hr hl hlt y).size
 still:=(hr.carry (Ext.move hr hl hlt y)).1
 base:=(hr.carry (Ext.move hr hl hlt y)).2
theorem WA (zs:Array Value) (n:Nat):(Builtin.zeroCells zs n).size=n*zs.size:=by simp [Builtin.zeroCells]
def ZhV (P:Program) (μ:Mp Bs) (h:Zd) (w:World) (s:Sem Value) (x:AV) (h':Zd):Prop :=
 ∃ u μ' w',s.run P w=.ok u w'∧Rel μ' h' w'∧Ext μ h w μ' h' w'∧Rep μ' h' w' x u
theorem Zkk {s:Sem Value} {wr:Bool} {z c:Nat} {rs:List (List AV)} {flat:List Value} {rest:Array Value} {T:TypeId} (hr:Rel μ h w) (hpos:0 < rs.length) (hl:flat.length=rs.length*z) (hin:RowsN μ h (YT w) z rs flat.toArray) (hc:rs.length≤c) (hrest:rest.size=(c - rs.length)*z)
  (hrun:s.run P w=.ok (.slice (some ⟨w.heap.size,0,none⟩) rs.length c) ((YT w).alloc (.cells (flat.toArray++rest) T))):ZhV P μ h w s (.own h.length rs.length) (h++[.rows z rs wr]):=by
 have hr1:=JI hr
 have e1:=Ext.push hr1 (.rows z rs wr) (some (.cells (flat.toArray++rest) T))
 have hsz:(flat.toArray++rest).size=c*z:=by
  simp only [Array.size_append,List.size_toArray,hl,hrest]
  rw [←Nat.add_mul]
  congr 1
  omega
 have hheap:((YT w).alloc (.cells (flat.toArray++rest) T)).heap[w.heap.size]? = some (.cells (flat.toArray++rest) T (0,0)):=YH (w:=YT w) _
 refine ⟨_,_,_,hrun,Rel.push hr1 (.rows z rs wr) (some (.cells (flat.toArray++rest) T)) ?_,drew_ext.trans e1,?_⟩
 ·refine .inr ⟨w.heap.size,flat.toArray++rest,T,Zv _ _,.free hheap,by rw [hsz];exact Nat.mul_le_mul_right z hc,?_⟩
  have h2:=RowsN.append (μ:=μ) (h:=h) (w:=YT w) (fl:=[]) (fy:=flat) (rest:=rest.toList) (rs:=[]) (ys:=rs) (z:=z) (by simp) (fun i row hrow=>by simp at hrow) hin
  have h3:([]++flat++rest.toList).toArray=flat.toArray++rest:=by apply Array.ext';simp
  rw [h3] at h2
  exact RowsN.ext e1 h2
 ·exact ⟨z,rs,wr,_,c,by simp,Nat.le_refl _,rfl,fun _=>⟨hc,fun h0=>by omega,.inr ⟨w.heap.size,flat.toArray++rest,T,rfl,Zv _ _,⟨_,hheap⟩,by rw [hsz];exact Nat.le_refl _⟩⟩⟩
theorem Zk4 {s:Sem Value} {l z c:Nat} {rs ys:List (List AV)} {wr:Bool} {fl fy:List Value} {rest:Array Value} {T:TypeId} (hr:Rel μ h w) (hlk:h[l]? = some (.rows z rs wr)) (hpos:0 < ys.length) (hl:fl.length=rs.length*z) (hin:RowsN μ h (YT w) z rs fl.toArray) (hl':fy.length=ys.length*z) (hin':RowsN μ h (YT w) z ys fy.toArray)
  (hc:rs.length+ys.length≤c) (hrest:rest.size=(c - (rs.length+ys.length))*z)
  (hrun:s.run P w=.ok (.slice (some ⟨w.heap.size,0,none⟩) (rs.length+ys.length) c) ((YT w).alloc (.cells (fl.toArray++fy.toArray++rest) T))):ZhV P μ h w s (.own l (rs.length+ys.length)) (h.set l (.rows z (rs++ys) wr)):=by
 have hr1:=JI hr
 have hlt:rs.length < (rs++ys).length:=by simp;omega
 have e1:=Ext.move hr1 hlk hlt (.cells (fl.toArray++fy.toArray++rest) T)
 have hsz:(fl.toArray++fy.toArray++rest).size=c*z:=by
  simp only [Array.size_append,List.size_toArray,hl,hl',hrest]
  rw [←Nat.add_mul,←Nat.add_mul]
  congr 1
  omega
 have hheap:((YT w).alloc (.cells (fl.toArray++fy.toArray++rest) T)).heap[w.heap.size]? = some (.cells (fl.toArray++fy.toArray++rest) T (0,0)):=YH (w:=YT w) _
 have hlen:(rs++ys).length=rs.length+ys.length:=by simp
 refine ⟨_,_,_,hrun,Rel.move hr1 hlk hlt _ ?_,drew_ext.trans e1,?_⟩
 ·refine .inr ⟨w.heap.size,_,T,Zv _ _,.free hheap,by rw [hsz,hlen];exact Nat.mul_le_mul_right z hc,?_⟩
  have h2:=RowsN.append (μ:=μ) (h:=h) (w:=YT w) (fl:=fl) (fy:=fy) (rest:=rest.toList) (rs:=rs) (ys:=ys) (z:=z) hl hin hin'
  have h3:(fl++fy++rest.toList).toArray=fl.toArray++fy.toArray++rest:=by apply Array.ext';simp
  rw [h3] at h2
  exact RowsN.ext e1 h2
 ·exact ⟨z,rs++ys,wr,_,c,by rw [List.getElem?_set_self (List.getElem?_eq_some_iff.1 hlk).1],by omega,rfl,fun _=>⟨hc,fun h0=>by omega,.inr ⟨w.heap.size,_,T,rfl,Zv _ _,⟨_,hheap⟩,by rw [hsz];exact Nat.le_refl _⟩⟩⟩
theorem ZjG {s:Sem Value} {l z c:Nat} {rs ys:List (List AV)} {wr:Bool} {fl fy:List Value} {rest:Array Value} {T:TypeId} (hr:Rel μ h w) (hlk:h[l]? = some (.rows z rs wr)) (hpos:0 < ys.length) (hl:fl.length=rs.length*z) (hin:RowsN μ h (YT w) z rs fl.toArray) (hl':fy.length=ys.length*z) (hin':RowsN μ h (YT w) z ys fy.toArray)
  (hc:rs.length+ys.length≤c) (hrest:rest.size=(c - (rs.length+ys.length))*z)
  (hrun:s.run P w=.ok (.slice (some ⟨w.heap.size,0,none⟩) (rs.length+ys.length) c) ((YT w).alloc (.cells (fl.toArray++fy.toArray++rest) T))):ZhV P μ h w s (.town T l (rs.length+ys.length)) (h.set l (.rows z (rs++ys) wr)):=by
 have hr1:=JI hr
 have hlt:rs.length < (rs++ys).length:=by simp;omega
 have e1:=Ext.move hr1 hlk hlt (.cells (fl.toArray++fy.toArray++rest) T)
 have hsz:(fl.toArray++fy.toArray++rest).size=c*z:=by
  simp only [Array.size_append,List.size_toArray,hl,hl',hrest]
  rw [←Nat.add_mul,←Nat.add_mul]
  congr 1
  omega
 have hheap:((YT w).alloc (.cells (fl.toArray++fy.toArray++rest) T)).heap[w.heap.size]? = some (.cells (fl.toArray++fy.toArray++rest) T (0,0)):=YH (w:=YT w) _
 have hlen:(rs++ys).length=rs.length+ys.length:=by simp
 refine ⟨_,_,_,hrun,Rel.move hr1 hlk hlt _ ?_,drew_ext.trans e1,?_⟩
 ·refine .inr ⟨w.heap.size,_,T,Zv _ _,.free hheap,by rw [hsz,hlen];exact Nat.mul_le_mul_right z hc,?_⟩
  have h2:=RowsN.append (μ:=μ) (h:=h) (w:=YT w) (fl:=fl) (fy:=fy) (rest:=rest.toList) (rs:=rs) (ys:=ys) (z:=z) hl hin hin'
  have h3:(fl++fy++rest.toList).toArray=fl.toArray++fy.toArray++rest:=by apply Array.ext';simp
  rw [h3] at h2
  exact RowsN.ext e1 h2
 ·exact ⟨z,rs++ys,wr,_,c,by rw [List.getElem?_set_self (List.getElem?_eq_some_iff.1 hlk).1],by omega,rfl,fun _=>⟨hc,fun h0=>by omega,.inr ⟨w.heap.size,_,rfl,Zv _ _,⟨_,hheap⟩,by rw [hsz];exact Nat.le_refl _⟩⟩⟩
theorem Zlu {z:Nat} {y:AV} {ys:List (List AV)} {v:Value} (hr:Rel μ h w) (e:Zh7 h y=some ys) (hz:YB z ys=true) (hy:Rep μ h w y v):Src P μ h w z ys v:=by
 unfold Zh7 at e
 split at e
 ·simp only [Option.some.injEq] at e
  subst e
  obtain ⟨base,cap,rfl,_,hb⟩:=hy
  exact Zdz hz hb
 ·simp only [Option.some.injEq] at e
  subst e
  obtain ⟨base,rfl,hb⟩:=hy
  exact Zdz hz hb
 ·simp only [Option.some.injEq] at e
  subst e
  have:v=.slice none 0 0:=hy
  subst this
  exact Zdz (ys:=[]) hz (.inl rfl)
 ·simp only [Option.some.injEq] at e
  subst e
  obtain ⟨base,cap,rfl,_⟩:=hy
  exact Zdz (ys:=[]) hz (.inl rfl)
 ·rename_i l n
  split at e
  ·rename_i z' rs wr hl
   split at e
   ·rename_i hn
    simp only [Option.some.injEq] at e
    subst e
    obtain ⟨base,cap,flat,rfl,_,h1,h2,h3,_⟩:=Zfe (P:=P) hr hl hn hy
    cases rs with
    | nil=>exact Zdz (ys:=[]) hz (.inl rfl)
    | cons row rs =>
     have hzz:z'=z:=by
      have h4:=(h2 0 row rfl).1
      have h5:=Qg hz 0 row rfl
      omega
     subst hzz
     exact ⟨base,cap,flat,rfl,h1,h2,h3⟩
   ·simp at e
  ·simp at e
 ·simp at e
theorem ZeJ {wq:Bool} {at_:Array TypeId} {t u ty:TypeId} {z b:Nat} {xs:AV} {ys:List (List AV)} {vx vy:Value} {h':Zd} (h0:at_[0]? = some t) (h1:at_[1]? = some u) (hu':ZcO P u) (hes:es P t=some (z,b))
  (hr:Rel μ h w) (hx:Rep μ h w xs vx) (hy:Zo3 P μ h w z ys vy) (e:YQ wq h z b xs ys=some (x,h')):ZhV P μ h w (Builtin.append_ at_ ty #[vx,vy]) x h':=by
 obtain ⟨el,i,y,hu,hi,rfl,rfl,hz,hzc⟩:=Zbg hes
 obtain ⟨fy,hlen',hl',hin',hf'⟩:=hy
 have hin2:RowsN μ h (YT w) i.size ys fy.toArray:=hin'.ext (drew_ext (μ:=μ) (h:=h) (w:=w))
 unfold YQ at e
 split at e
 ·-- nil
  have:vx=.slice none 0 0:=hx
  subst this
  split at e
  ·rename_i hroom
   simp only [Option.some.injEq,Prod.mk.injEq] at e
   obtain ⟨rfl,rfl⟩:=e
   cases ys with
   | nil =>
    have hfy:fy=[]:=List.length_eq_zero_iff.1 (by simpa using hl')
    subst hfy
    have hrun:=Qm (P:=P) (base:=none) (w:=w) (ty:=ty) h0 h1 hu hu' hi hlen' (hf' w rfl)
    refine ⟨_,μ.set h.length none,w,hrun,Rel.push hr (.rows i.size [] wq) none (.inl ⟨rfl,Zv _ _⟩),Ext.push hr (.rows i.size [] wq) none,?_⟩
    exact ⟨i.size,[],wq,none,0,by simp,Nat.le_refl _,rfl,fun _=>⟨Nat.le_refl _,fun _=>rfl,.inl rfl⟩⟩
   | cons y0 ys =>
    obtain ⟨c,hc,hrun⟩:=Jd (P:=P) (w:=w) (ty:=ty) (base:=none) (n:=0) (cap:=0) (old:=[]) h0 h1 hu hu' hi hz hlen' (by simp) (by simpa using hroom) rfl (hf' _ rfl)
    refine Zkk (c:=c) (rest:=Builtin.zeroCells y.cells (c - (0+(y0::ys).length))) (T:=el) hr (by simp) hl' hin2 (by omega) (by rw [WA,hzc];simp) ?_
    rw [hrun]
    simp
  ·simp at e
 ·rename_i rs
  obtain ⟨base,rfl,hb⟩:=hx
  split at e
  ·rename_i hc0
   obtain ⟨hpos,hall,hroom⟩:=hc0
   simp only [Option.some.injEq,Prod.mk.injEq] at e
   obtain ⟨rfl,rfl⟩:=e
   obtain ⟨base2,cap2,fl,he,hl,hin,hf⟩:=Zdz (P:=P) (μ:=μ) (h:=h) (w:=w) (cap:=rs.length) hall hb
   simp only [Value.slice.injEq,true_and] at he
   obtain ⟨rfl,rfl⟩:=he
   have hinr:RowsN μ h (YT w) i.size rs fl.toArray:=hin.ext (drew_ext (μ:=μ) (h:=h) (w:=w))
   obtain ⟨c,hc,hrun⟩:=Jd (P:=P) (w:=w) (ty:=ty) h0 h1 hu hu' hi hz hlen' (by omega) hroom (hf _ rfl) (hf' _ rfl)
   have hcat:=RowsN.append (rest:=[]) hl hinr hin2
   rw [List.append_nil] at hcat
   have:=Zkk (wr:=wq) (s:=Builtin.append_ at_ ty #[.slice base rs.length rs.length,vy]) (P:=P) (c:=c) (rs:=rs++ys) (flat:=fl++fy) (rest:=Builtin.zeroCells y.cells (c - (rs.length+ys.length))) (T:=el) hr (by simp;omega) (by simp [hl,hl',Nat.add_mul]) hcat (by simp;omega) (by rw [WA,hzc];simp) (by
    rw [hrun]
    have:(fl++fy).toArray=fl.toArray++fy.toArray:=by apply Array.ext';simp
    rw [this]
    simp)
   simpa using this
  ·split at e
   ·rename_i hy0
    subst hy0
    simp only [Option.some.injEq,Prod.mk.injEq] at e
    obtain ⟨rfl,rfl⟩:=e
    have hfy:fy=[]:=List.length_eq_zero_iff.1 (by simpa using hl')
    subst hfy
    exact ⟨_,μ,w,ZiU (P:=P) (w:=w) (ty:=ty) h0 h1 hu hu' hi (Nat.le_refl _) hlen' (hf' w rfl),hr,Ext.refl _ _ _,base,rfl,hb⟩
   ·simp at e
 ·rename_i l n
  split at e
  ·rename_i sz rs wr hlk
   split at e
   ·rename_i hc0
    obtain ⟨hn,rfl,hroom⟩:=hc0
    simp only [Option.some.injEq,Prod.mk.injEq] at e
    obtain ⟨rfl,rfl⟩:=e
    obtain ⟨base,cap,fl,rfl,hcap,hl,hin,hf,hb⟩:=Zfe (P:=P) hr hlk hn hx
    subst hn
    have hinr:RowsN μ h (YT w) i.size rs fl.toArray:=hin.ext (drew_ext (μ:=μ) (h:=h) (w:=w))
    by_cases hfit:rs.length+ys.length≤cap
    ·rcases hb with ⟨rfl,rfl⟩ | ⟨b,vs,T,rfl,hm,⟨fz,hw,hfz⟩,hcz,hfl⟩
     ·-- nothing yet,and nothing comes
      have hy0:ys=[]:=List.length_eq_zero_iff.1 (by simp only [List.length_nil] at hfit;omega)
      subst hy0
      have hfy:fy=[]:=List.length_eq_zero_iff.1 (by simpa using hl')
      subst hfy
      have hrun:=Qm (P:=P) (base:=base) (w:=w) (ty:=ty) h0 h1 hu hu' hi hlen' (hf' w rfl)
      rw [List.append_nil,Js hlk]
      exact ⟨_,μ,w,hrun,hr,Ext.refl _ _ _,hx⟩
     ·have hrun:=Zd4 (P:=P) (ty:=ty) h0 h1 hu hu' hi hlen' hfit hw (by rcases hfz with rfl | hfz;exact Nat.zero_le _;exact hfz.2) hcz hl' (ZdY hl' hin') (hf' w rfl)
      have hle:rs.length*i.size+fy.length≤vs.size:=by
       rw [hl',←Nat.add_mul]
       exact Nat.le_trans (Nat.mul_le_mul_right _ hfit) hcz
      have hsize:(vs.toList.take (rs.length*i.size)++fy++vs.toList.drop (rs.length*i.size+fy.length)).toArray.size=vs.size:=by
       simp;omega
      have ex:Ext μ h w μ (h.set l (.rows i.size (rs++ys) wr)) (w.setRow b (vs.toList.take (rs.length*i.size)++fy++vs.toList.drop (rs.length*i.size+fy.length)).toArray) :=
       Ext.update hr hlk hm hw (setRow_heap w b _ _ T _ hw) (fun b2 hb2=>setRow_other w b b2 _ hb2) rfl rfl rfl (by simp) hsize
        (fun o v hv hno=>by
         have ho:o < rs.length*i.size:=by
          have:¬(i.size*rs.length≤o):=fun hle=>hno (.inr hle)
          rw [Nat.mul_comm];omega
         simp only [List.getElem?_toArray]
         rw [Qj _ _ _ _ (by simpa using hle),if_pos ho]
         simpa using hv)
        (fun o ho=>by
         rcases ho with ho | ho
         ·exact .inl ho
         ·right
          refine Nat.le_trans ?_ ho
          exact Nat.mul_le_mul_left _ (by simp))
        ⟨rfl,by simp⟩
      refine ⟨_,μ,_,hrun,Rel.update hr hlk hm (fun b2 hb2=>setRow_other w b b2 _ hb2) ex ?_,ex,?_⟩
      ·refine .inr ⟨b,_,T,hm,⟨fz,setRow_heap w b _ _ T _ hw,hfz.imp id fun hfz=>⟨hfz.1,Nat.le_trans hfz.2 (Nat.mul_le_mul_right _ (by simp))⟩⟩,by rw [hsize];refine Nat.le_trans ?_ hcz;exact Nat.mul_le_mul_right _ (by simpa using hfit),?_⟩
       have:=RowsN.append (rest:=vs.toList.drop (rs.length*i.size+fy.length)) hl hin hin'
       rw [hfl] at this
       exact this.ext ex
      ·exact ⟨i.size,rs++ys,wr,_,cap,by rw [List.getElem?_set_self (List.getElem?_eq_some_iff.1 hlk).1],by simp,rfl,fun _=>⟨hfit,fun h00=>by
        obtain ⟨z2,rs2,wr2,base2,cap2,hlk2,_,he2,hv2⟩:=hx
        rw [hlk] at hlk2
        simp only [Option.some.injEq,Blk.rows.injEq] at hlk2
        obtain ⟨rfl,rfl,rfl⟩:=hlk2
        simp only [Value.slice.injEq,true_and] at he2
        obtain ⟨_,rfl⟩:=he2
        exact (hv2 rfl).2.1 (by omega),.inr ⟨b,_,T,rfl,hm,⟨_,setRow_heap w b _ _ T _ hw⟩,by rw [hsize];exact hcz⟩⟩⟩
    ·obtain ⟨c,hc,hrun⟩:=Jd (P:=P) (w:=w) (ty:=ty) h0 h1 hu hu' hi hz hlen' (by omega) hroom (hf _ rfl) (hf' _ rfl)
     exact Zk4 (c:=c) (rest:=Builtin.zeroCells y.cells (c - (rs.length+ys.length))) (T:=el) hr hlk (by omega) hl hinr hl' hin2 hc (by rw [WA,hzc]) hrun
   ·simp at e
  ·simp at e
 ·simp at e
theorem Za2 {t:TypeId} {n m:AV} {vn vm:Value} {hz h':Zd} (hn:Rep μ h w n vn) (hm:Rep μ h w m vm) (e:Yg P t hz n m=some (x,h')) :
  ∃ (z:Nat) (rs:List (List AV)) (arr:Array Value) (el:TypeId),x=.own hz.length rs.length∧h'=hz++[.rows z rs true]∧(Instr.makeSlice t vn vm).run P w=.ok (.slice (some ⟨w.heap.size,0,none⟩) rs.length rs.length) (w.alloc (.cells arr el))∧arr.size=rs.length*z∧RowsIn (Mut μ h) w z rs arr:=by
 unfold Yg at e
 split at e
 ·rename_i k k'
  have e1:vn=.int .i64 k:=hn
  have e2:vm=.int .i64 k':=hm
  subst e1 e2
  split at e
  ·rename_i hkk
   subst hkk
   split at e
   ·rename_i z b hes
    split at e
    ·rename_i hc
     obtain ⟨hk0,hkb⟩:=hc
     obtain ⟨el,i,y,hu,hi,rfl,rfl,hz,hzc⟩:=Zbg hes
     unfold Zdj at e
     split at e
     ·rename_i az haz
      split at e
      ·rename_i rs hrs
       simp only [Option.some.injEq,Prod.mk.injEq] at e
       obtain ⟨rfl,rfl⟩:=e
       have hazy:az=Xr y:=by
        unfold Wc at haz
        rw [hu] at haz
        simp only [zv,hi,hz,Option.map_some,Option.some.injEq] at haz
        exact haz.symm
       subst hazy
       unfold Zau at hrs
       split at hrs
       ·rename_i cs hcs
        split at hrs
        ·rename_i hcl
         simp only [Option.some.injEq] at hrs
         subst hrs
         obtain ⟨hs,hp⟩:=Zcf (M:=Mut μ h) (w:=w) hcs (XE y)
         obtain ⟨j,rfl⟩:=Int.eq_ofNat_of_zero_le hk0
         simp only [Int.toNat_natCast]
         have hjb:j*(i.bytes+1)≤Zg:=by exact_mod_cast hkb
         have hj:j≤j*(i.bytes+1):=Nat.le_mul_of_pos_right _ (by omega)
         have hjB:j*i.bytes≤j*(i.bytes+1):=Nat.mul_le_mul_left _ (by omega)
         have hwrap:IntKind.i64.wrap (j:Int)=j:=by
          unfold Zg at hjb
          exact IntWalk.i64_in _ (by omega)
         have hbj:((i.bytes:Int)*(j:Int))≤35184372088832:=by
          have:((j*i.bytes:Nat):Int)≤35184372088832:=by unfold Zg at hjb;omega
          rw [Int.natCast_mul] at this
          rw [Int.mul_comm];exact this
         let arr:Array Value:=(Array.range (j*i.size)).map (y.cells[· % y.cells.size]!)
         have hin:RowsIn (Mut μ h) w i.size (List.replicate j cs) arr:=fun r row hrow=>by
          rw [List.getElem?_replicate] at hrow
          split at hrow
          ·rename_i hr'
           simp only [Option.some.injEq] at hrow
           subst hrow
           refine ⟨hcl,hs,fun c a' ha=>?_⟩
           obtain ⟨v,h1,h2⟩:=hp.at c a' ha
           refine ⟨v,?_,h2⟩
           have hcz:c < i.size:=by rw [←hcl];exact (List.getElem?_eq_some_iff.1 ha).1
           have hlt:r*i.size+c < j*i.size:=by
            have:r*i.size+i.size≤j*i.size:=by rw [←Nat.succ_mul];exact Nat.mul_le_mul_right _ hr'
            omega
           have hmod:(r*i.size+c) % y.cells.size=c:=by
            rw [hzc,Nat.mul_comm,Nat.mul_add_mod]
            exact Nat.mod_eq_of_lt hcz
           have hyc:y.cells[c]? = some v:=by simpa using h1
           simp only [arr,Array.getElem?_map,Array.getElem?_range,hlt,if_true,Option.map_some,hmod]
           congr 1
           rw [getElem!_def,hyc]
          ·simp at hrow
         have hsz:arr.size=j*i.size:=by simp [arr]
         refine ⟨i.size,List.replicate j cs,arr,el,by rw [List.length_replicate],rfl,?_,by rw [hsz,List.length_replicate],hin⟩
         rw [List.length_replicate]
         have hti:∀ w:World,(typeInfo el).run P w=.ok i w:=fun w=>by simp [typeInfo,hi]
         have hso:∀ w:World,(sizeOf el).run P w=.ok i.size w:=fun w=>by simp [sizeOf,typeInfo,hi]
         have hzv:∀ w:World,(zeroValue el).run P w=.ok y w:=fun w=>by simp [zeroValue,typeInfo,hi,hz]
         have hcond:¬(((((j:Int) < 0||decide ((i.bytes:Int)*(j:Int) > 2 ^ 48))||decide ((j:Int) < 0))||decide ((j:Int) > j))=true):=by
          simp
          omega
         by_cases hnz:j*i.size=0
         ·have harr:arr=#[]:=Array.eq_empty_of_size_eq_zero (by rw [hsz,hnz])
          have hze:(Array.range 0 |>.map fun x=>(#[]:Array Value)[x % (#[]:Array Value).size]!)=#[]:=by simp
          rw [harr]
          simp only [Instr.makeSlice,Sem.run_bind,run_underlying hu,Result.andThen_ok,asInt,asIntOf,pure_bind,Sem.run_pure,hti,hwrap,Sem.run_ite,if_neg hcond,run_askRoom,Int.toNat_natCast,hso,hnz,if_true,newRow,run_newObj,hze]
          rfl
         ·simp only [Instr.makeSlice,Sem.run_bind,run_underlying hu,Result.andThen_ok,asInt,asIntOf,pure_bind,Sem.run_pure,hti,hwrap,Sem.run_ite,if_neg hcond,run_askRoom,Int.toNat_natCast,hso,if_neg hnz,hzv,newRow,run_newObj]
          rfl
        ·simp at hrs
       ·simp at hrs
      ·simp at e
     ·simp at e
    ·simp at e
   ·simp at e
  ·simp at e
 ·simp at e
theorem Zeo {t:TypeId} {n m:AV} {vn vm:Value} {h':Zd} (hr:Rel μ h w) (hn:Rep μ h w n vn) (hm:Rep μ h w m vm) (e:Yg P t h n m=some (x,h')):ZhV P μ h w (Instr.makeSlice t vn vm) x h':=by
 obtain ⟨z,rs,arr,el,rfl,rfl,hrun,hsz,hin⟩:=Za2 hn hm e
 have ex:=Ext.push hr (.rows z rs true) (some (.cells arr el))
 have hheap:(w.alloc (.cells arr el)).heap[w.heap.size]? = some (.cells arr el (0,0)):=YH _
 refine ⟨_,_,w.alloc (.cells arr el),hrun,Rel.push hr (.rows z rs true) (some (.cells arr el)) ?_,ex,?_⟩
 ·exact .inr ⟨w.heap.size,arr,el,Zv _ _,.free hheap,by simp [hsz],(hin.keep ex.keep).some⟩
 ·exact ⟨z,rs,true,_,rs.length,by simp,by simp,rfl,fun _=>⟨Nat.le_refl _,fun h00=>h00,.inr ⟨w.heap.size,arr,el,rfl,Zv _ _,⟨_,hheap⟩,by rw [hsz];exact Nat.le_refl _⟩⟩⟩
theorem JL {s:Sem Value} {h':Zd} (hs:(execOp a.eval o).run P w=(s.run P w).andThen fun v w'=>.ok (.value v) w') (hm:ZhV P μ h w s x h'):Wa P o a μ h w x h':=by
 intro next Q hn
 obtain ⟨u,μ',w',h1,h2,h3,h4⟩:=hm
 unfold Oper.wp
 rw [hs,h1]
 exact hn u μ' w' h2 h3 h4
theorem Zdb {wq:Bool} {at_:Array TypeId} {t u ty e0:TypeId} {z b l n:Nat} {ys:List (List AV)} {vx vy:Value} {h':Zd} (h0:at_[0]? = some t) (h1:at_[1]? = some u) (hu':ZcO P u) (hes:es P t=some (z,b)) (hel:elT P t=some e0)
  (hr:Rel μ h w) (hx:TownRep μ h w e0 l n vx) (hy:Zo3 P μ h w z ys vy) (e:YQ wq h z b (.own l n) ys=some (x,h')):∃ m,x=.own l m∧ZhV P μ h w (Builtin.append_ at_ ty #[vx,vy]) (.town e0 l m) h':=by
 obtain ⟨el,i,y,hu,hi,rfl,rfl,hz,hzc⟩:=Zbg hes
 have hel:el=e0:=by simp only [elT,hu,Option.some.injEq] at hel;exact hel
 subst hel
 obtain ⟨fy,hlen',hl',hin',hf'⟩:=hy
 have hin2:RowsN μ h (YT w) i.size ys fy.toArray:=hin'.ext (drew_ext (μ:=μ) (h:=h) (w:=w))
 simp only [YQ] at e
 split at e
 ·rename_i sz rs wr hlk
  split at e
  ·rename_i hc0
   obtain ⟨hn,rfl,hroom⟩:=hc0
   simp only [Option.some.injEq,Prod.mk.injEq] at e
   obtain ⟨rfl,rfl⟩:=e
   refine ⟨_,rfl,?_⟩
   obtain ⟨base,cap,fl,rfl,hcap,hl,hin,hf,hb⟩:=Zfe (P:=P) hr hlk hn hx.own
   subst hn
   have hinr:RowsN μ h (YT w) i.size rs fl.toArray:=hin.ext (drew_ext (μ:=μ) (h:=h) (w:=w))
   by_cases hfit:rs.length+ys.length≤cap
   ·rcases hb with ⟨rfl,rfl⟩ | ⟨b,vs,T,rfl,hm,⟨fz,hw,hfz⟩,hcz,hfl⟩
    ·have hy0:ys=[]:=List.length_eq_zero_iff.1 (by simp only [List.length_nil] at hfit;omega)
     subst hy0
     have hfy:fy=[]:=List.length_eq_zero_iff.1 (by simpa using hl')
     subst hfy
     have hrun:=Qm (P:=P) (base:=base) (w:=w) (ty:=ty) h0 h1 hu hu' hi hlen' (hf' w rfl)
     rw [List.append_nil,Js hlk]
     exact ⟨_,μ,w,hrun,hr,Ext.refl _ _ _,hx⟩
    ·have hT:T=el:=by
      obtain ⟨z2,rs2,wr2,base2,cap2,hlk2,_,he2,hv2⟩:=hx
      rw [hlk] at hlk2
      simp only [Option.some.injEq,Blk.rows.injEq] at hlk2
      obtain ⟨rfl,rfl,rfl⟩:=hlk2
      obtain ⟨_,_,hv3⟩:=hv2 rfl
      simp only [Value.slice.injEq,true_and] at he2
      obtain ⟨rfl,rfl⟩:=he2
      rcases hv3 with ⟨hx,_⟩ | ⟨b3,vs3,hb3,_,⟨fz3,hw3⟩,_⟩
      ·simp at hx
      ·simp only [Option.some.injEq,Addr.mk.injEq,and_true] at hb3
       obtain rfl:=hb3
       rw [hw] at hw3
       simp only [Option.some.injEq,Obj.cells.injEq] at hw3
       exact hw3.2.1
     subst hT
     have hrun:=Zd4 (P:=P) (ty:=ty) h0 h1 hu hu' hi hlen' hfit hw (by rcases hfz with rfl | hfz;exact Nat.zero_le _;exact hfz.2) hcz hl' (ZdY hl' hin') (hf' w rfl)
     have hle:rs.length*i.size+fy.length≤vs.size:=by
      rw [hl',←Nat.add_mul]
      exact Nat.le_trans (Nat.mul_le_mul_right _ hfit) hcz
     have hsize:(vs.toList.take (rs.length*i.size)++fy++vs.toList.drop (rs.length*i.size+fy.length)).toArray.size=vs.size:=by
      simp;omega
     have ex:Ext μ h w μ (h.set l (.rows i.size (rs++ys) wr)) (w.setRow b (vs.toList.take (rs.length*i.size)++fy++vs.toList.drop (rs.length*i.size+fy.length)).toArray) :=
      Ext.update hr hlk hm hw (setRow_heap w b _ _ T _ hw) (fun b2 hb2=>setRow_other w b b2 _ hb2) rfl rfl rfl (by simp) hsize
       (fun o v hv hno=>by
        have ho:o < rs.length*i.size:=by
         have:¬(i.size*rs.length≤o):=fun hle=>hno (.inr hle)
         rw [Nat.mul_comm];omega
        simp only [List.getElem?_toArray]
        rw [Qj _ _ _ _ (by simpa using hle),if_pos ho]
        simpa using hv)
       (fun o ho=>by
        rcases ho with ho | ho
        ·exact .inl ho
        ·right
         refine Nat.le_trans ?_ ho
         exact Nat.mul_le_mul_left _ (by simp))
       ⟨rfl,by simp⟩
     refine ⟨_,μ,_,hrun,Rel.update hr hlk hm (fun b2 hb2=>setRow_other w b b2 _ hb2) ex ?_,ex,?_⟩
     ·refine .inr ⟨b,_,T,hm,⟨fz,setRow_heap w b _ _ T _ hw,hfz.imp id fun hfz=>⟨hfz.1,Nat.le_trans hfz.2 (Nat.mul_le_mul_right _ (by simp))⟩⟩,by rw [hsize];refine Nat.le_trans ?_ hcz;exact Nat.mul_le_mul_right _ (by simpa using hfit),?_⟩
      have:=RowsN.append (rest:=vs.toList.drop (rs.length*i.size+fy.length)) hl hin hin'
      rw [hfl] at this
      exact this.ext ex
     ·exact ⟨i.size,rs++ys,wr,_,cap,by rw [List.getElem?_set_self (List.getElem?_eq_some_iff.1 hlk).1],by simp,rfl,fun _=>⟨hfit,fun h00=>by
       obtain ⟨z2,rs2,wr2,base2,cap2,hlk2,_,he2,hv2⟩:=hx
       rw [hlk] at hlk2
       simp only [Option.some.injEq,Blk.rows.injEq] at hlk2
       obtain ⟨rfl,rfl,rfl⟩:=hlk2
       simp only [Value.slice.injEq,true_and] at he2
       obtain ⟨_,rfl⟩:=he2
       exact (hv2 rfl).2.1 (by omega),.inr ⟨b,_,rfl,hm,⟨_,setRow_heap w b _ _ T _ hw⟩,by rw [hsize];exact hcz⟩⟩⟩
   ·obtain ⟨c,hc,hrun⟩:=Jd (P:=P) (w:=w) (ty:=ty) h0 h1 hu hu' hi hz hlen' (by omega) hroom (hf _ rfl) (hf' _ rfl)
    exact ZjG (c:=c) (rest:=Builtin.zeroCells y.cells (c - (rs.length+ys.length))) (T:=el) hr hlk (by omega) hl hinr hl' hin2 hc (by rw [WA,hzc]) hrun
  ·simp at e
 ·simp at e
theorem ZbC {wq:Bool} {at_:Array TypeId} {t u ty:TypeId} {z b:Nat} {xs:AV} {ys:List (List AV)} {vx vy:Value} {h':Zd} (h0:at_[0]? = some t) (h1:at_[1]? = some u) (hu':ZcO P u) (hes:es P t=some (z,b))
  (hr:Rel μ h w) (hx:Rep μ h w xs vx) (hy:Zo3 P μ h w z ys vy) (e:Wf (elT P t) wq h z b ys xs=some (x,h')):ZhV P μ h w (Builtin.append_ at_ ty #[vx,vy]) x h':=by
 unfold Wf at e
 split at e
 ·rename_i t0 l n
  split at e
  ·rename_i hel
   cases ha:YQ wq h z b (.own l n) ys with
   | none=>simp [ha,tyO] at e
   | some p =>
    obtain ⟨x0,h0'⟩:=p
    obtain ⟨m,rfl,hm⟩:=Zdb (ty:=ty) h0 h1 hu' hes hel hr hx hy ha
    simp only [ha,tyO,Option.some.injEq,Prod.mk.injEq] at e
    obtain ⟨rfl,rfl⟩:=e
    exact hm
  ·simp at e
 ·exact ZeJ (ty:=ty) h0 h1 hu' hes hr hx hy e
theorem ZjH {wq:Bool} {c:Call} {ev:Operand→AV} {h':Zd} (hr:Rel μ h w) (he:XB μ h w ev a.eval) (ho:o.op=.call c) (hc:c.callee=.builtin .append)
  (e:Zch P wq c.argTypes[0]? c.argTypes[1]? h (evs ev c.args.toList)=some (x,h')):Wa P o a μ h w x h':=by
 have hargs:=Jf he c.args.toList
 have hmap:c.args.map a.eval=(c.args.toList.map a.eval).toArray:=by apply Array.ext';simp
 unfold Zch at e
 split at e
 ·rename_i xs ys hxy
  rw [hxy] at hargs
  obtain ⟨v,vr,hv,hx,v2,vr2,hv2,hy,hnil⟩:=hargs
  have hnil':vr2=[]:=hnil
  subst hnil' hv2
  split at e
  ·rename_i t u ht hu
   split at e
   ·rename_i z0 b0 htk
    split at e
    ·rename_i z b hes
     split at e
     ·rename_i rs hrs
      split at e
      ·rename_i hal
       have hu':ZcO P u:=by
        unfold tk at htk
        split at htk
        ·simp at htk
        ·rename_i e' he';exact .inl ⟨e',he'⟩
        ·split at htk<;>simp at htk
        ·simp at htk
       refine JL ?_ (ZbC (ty:=o.type) ht hu hu' hes hr hx (Zlu hr hrs hal hy).two e)
       rw [Wk ho hc]
       simp only [pure_bind,invoke,builtin,Sem.run_bind,hmap,hv]
       rfl
      ·simp at e
     ·simp at e
    ·simp at e
   ·rename_i htk
    split at e
    ·rename_i z b hes
     unfold ZeE at e
     split at e
     ·rename_i s
      split at e
      ·rename_i hz
       subst hz
       have hu':ZcO P u:=by
        unfold tk at htk
        split at htk
        ·rename_i he';exact .inr he'
        ·split at htk<;>simp at htk
        ·split at htk<;>simp at htk
        ·simp at htk
       have hy:v2=.string ⟨s.toArray⟩:=hy
       subst hy
       refine JL ?_ (ZbC (ty:=o.type) ht hu hu' hes hr hx ZsL e)
       rw [Wk ho hc]
       simp only [pure_bind,invoke,builtin,Sem.run_bind,hmap,hv]
       rfl
      ·simp at e
     ·simp at e
    ·simp at e
   ·simp at e
  ·simp at e
 ·simp at e
theorem ZeQ {t:TypeId} {n m:Operand} {ev:Operand→AV} {h':Zd} (hr:Rel μ h w) (he:XB μ h w ev a.eval) (ho:o.op=.makeSlice t n m) (e:Yg P t h (ev n) (ev m)=some (x,h')):Wa P o a μ h w x h':=by
 refine JL ?_ (Zeo (P:=P) (t:=t) hr (he n) (he m) e)
 simp only [execOp,ho,Sem.run_bind]
 rfl
theorem Zqc {t:TypeId} {y:Operand} {ev:Operand→AV} {h':Zd} (hr:Rel μ h w) (he:XB μ h w ev a.eval) (ho:o.op=.box t y) (e:Go.Ab.alloc h (some (ev y))=some (x,h')):Wa P o a μ h w x h':=by
 refine Zfd (t:=t) hr e (he y) ?_
 simp only [execOp,ho,Instr.box,Sem.run_bind,QS,Result.andThen_ok,Sem.run_pure]
theorem Zpk {t:TypeId} {h':Zd} (hr:Rel μ h w) (ho:o.op=.alloc t) (e:Go.Ab.alloc h (zv P t)=some (x,h')):Wa P o a μ h w x h':=by
 cases hz:zv P t with
 | none=>simp [hz,Go.Ab.alloc] at e
 | some y =>
  rw [hz] at e
  obtain ⟨i,z,h1,h2,rfl,h4⟩:=Zco (w:=w) hz
  refine Zfd (t:=t) (v:=z) hr e (Rep.pure _ _ (XE z)) ?_
  simp only [execOp,ho,Instr.alloc,Sem.run_bind,h4,QS,Result.andThen_ok,Sem.run_pure]
theorem ZnP {t:TypeId} {h':Zd} (hr:Rel μ h w) (ho:o.op=.alloc t) (e:tyP t (Go.Ab.alloc h (zv P t))=some (x,h')):Wa P o a μ h w x h':=by
 cases hz:zv P t with
 | none=>simp [hz,Go.Ab.alloc,tyP] at e
 | some y =>
  rw [hz] at e
  obtain ⟨i,z,h1,h2,rfl,h4⟩:=Zco (w:=w) hz
  refine ZjB (t:=t) (v:=z) hr e (Rep.pure _ _ (XE z)) ?_
  simp only [execOp,ho,Instr.alloc,Sem.run_bind,h4,QS,Result.andThen_ok,Sem.run_pure]
theorem Zj0 {b:Bool} {t:TypeId} {h':Zd} (hr:Rel μ h w) (ho:o.op=.alloc t) (e:Zc1 b t (Go.Ab.alloc h (zv P t))=some (x,h')):Wa P o a μ h w x h':=by
 cases b with
 | true=>exact ZnP hr ho e
 | false=>exact Zpk hr ho e
end
section
variable {Bs:World→Prop}
variable {P:Program} {μ:Mp Bs} {h h':Zd} {w:World} {a:Act} {o:Oper} {x:AV}
theorem Zg3:∀ {n:Nat} {l:List AV},Qa n l=true→Zk l=[]
 | 0,[],_=>rfl
 | 0,_::_,h=>by simp [Qa] at h
 | n+1,[],h=>by simp [Qa] at h
 | n+1,a::l,h=>by
  cases a with
  | int k x =>
   cases k with
   | i64=>simp only [Qa] at h;simp [Zk,Zm,Zg3 h]
   | _=>simp [Qa] at h
  | _=>simp [Qa] at h
theorem ZnU {kk:KK} {k:AV} (hk:ZbG kk k=true):ZdA kk k=true:=by
 unfold ZbG at hk
 split at hk
 ·rfl
 ·rfl
 ·exact hk
 ·simp at hk
theorem ZlP {kk:KK} {k:AV} {vk:Value} (hk:ZbG kk k=true) (r:Rep μ h w k vk):PRep (Mut μ h) w k vk:=by
 unfold ZbG at hk
 split at hk
 ·exact r
 ·exact r
 ·exact Rep.none _ _ (Zg3 hk) r
 ·simp at hk
theorem ZdR {t:TypeId} {m k v:Operand} {ev:Operand→AV} (hr:Rel μ h w) (he:XB μ h w ev a.eval) (ho:o.op=.mapUpdate t m k v∨o.op=.insert t m k v) (e:Q2 P t h (ev m) (ev k) (ev v)=some h'):Wa P o a μ h w .any h':=by
 have hs:execOp a.eval o=(do Instr.mapUpdate t (a.eval m) (a.eval k) (a.eval v);pure .skip):=by
  rcases ho with ho | ho<;>simp only [execOp,ho]
 unfold Q2 at e
 split at e
 ·rename_i l hx
  split at e
  ·rename_i kk el es hkk hl
   split at e
   ·rename_i hko
    split at e
    ·rename_i v' r hv hf
     simp only [Option.some.injEq] at e
     subst e
     obtain ⟨kt,hu,hkt⟩:=ZmH hkk
     have hm:=he m
     rw [hx] at hm
     obtain ⟨es2,b,h1,h2,h2'⟩:=hm
     have hkr:=ZlP hko (he k)
     have hvr:=Y9 hr _ _ _ hv (he v)
     obtain ⟨b',ms,c,h3,h4,h5⟩:=hr.blk l _ hl
     have hbb:b'=b:=by rw [h2] at h3;simpa using h3.symm
     subst hbb
     have hg:(getObj b').run P w=.ok (.map ms.toArray c) w:=by simp [getObj,Sem.run,h4]
     have hck:=fun b=>Zcm hkt (ZnU hko) (he k) b
     obtain ⟨r',h6,h7⟩:=ZaD hkt (he k) h5 hf
     have hset:∀ ob:Obj,(setObj b' ob).run P w=.ok () { w with heap:=w.heap.setIfInBounds b' ob }:=fun ob=>MapKept.run_setObj_map ob h4
     have fin:∀ (ms':List MapEntry) (c':Nat),EntSet (Mut μ h) w (YK es (ev k) v' r) ms' →
       (Instr.mapUpdate t (a.eval m) (a.eval k) (a.eval v)).run P w=.ok () { w with heap:=w.heap.setIfInBounds b' (.map ms'.toArray c') }→Wa P o a μ h w .any (h.set l (.map (YK es (ev k) v' r))):=by
      intro ms' c' hE hrun
      have hrun':(execOp a.eval o).run P w=.ok .skip { w with heap:=w.heap.setIfInBounds b' (.map ms'.toArray c') }:=by
       rw [hs]
       simp [hrun]
      have hlt:b' < w.heap.size:=J1 h4
      have ex:Ext μ h w μ (h.set l (.map (YK es (ev k) v' r))) { w with heap:=w.heap.setIfInBounds b' (.map ms'.toArray c') }:=Ext.putMap hl h3 h4
      refine ZdB hrun' (Rel.update hr hl h3 (fun b2 hb2=>?_) ex ?_) ex
      ·exact Array.getElem?_setIfInBounds_ne (fun e=>hb2 e.symm)
      ·exact ⟨b',ms',c',h3,by simp [hlt],hE.keep ex.keep⟩
     cases r with
     | none =>
      have:r'=none:=h7
      subst this
      have hE:EntSet (Mut μ h) w (YK es (ev k) v' none) (ms++[({ key:=a.eval k,val:=a.eval v,born:=c }:MapEntry)]):=EntSet.ins h5 hf hkr hvr .i64
      refine fin _ (c+1) hE ?_
      simp only [Instr.mapUpdate,h2',Sem.run_bind,run_underlying hu,Result.andThen_ok,hck,hg,h6,hset]
      simp
     | some p =>
      obtain ⟨i,y⟩:=p
      obtain ⟨j,me,h8,rfl,_,h9,_,ms',hp1,hp2,hp3⟩:=h7
      have hna:∀ n,kk≠.arr n:=fun n hn=>by
       subst hn
       obtain ⟨_,k',hk',hq⟩:=Zbx es 0 hf
       simp [Xc] at hq
      refine fin (ms.modify j fun e=>{ e with key:=a.eval k,val:=a.eval v }) c (EntSet.put h5 hf hkr hvr hp1 hp2 h8 hp3) ?_
      have h8':ms.toArray[j]? = some me:=by simpa using h8
      have hst:(Instr.keyThatStays me.key (a.eval k)).run P w=.ok (a.eval k) w:=by rw [h9];exact Zhm hko hna hkr
      simp only [Instr.mapUpdate,h2',Sem.run_bind,run_underlying hu,Result.andThen_ok,hck,hg,h6,h8',Option.map_some,Option.getD_some,hst,hset]
      simp
    ·simp at e
   ·simp at e
  ·simp at e
 ·simp at e
theorem Zhp {t:TypeId} (hr:Rel μ h w) (ho:o.op=.makeMap t none):Wa P o a μ h w (.mp h.length) (h++[.map []]):=by
 intro next Q hn
 have hrun:(execOp a.eval o).run P w=.ok (.value (.map (some w.heap.size))) (w.alloc (.map #[] 0)):=by
  simp only [execOp,ho,Instr.makeMap]
  rfl
 unfold Oper.wp
 rw [hrun]
 have hp:=Ext.push hr (.map []) (some (.map #[] 0))
 refine hn _ (μ.set h.length (some w.heap.size)) (w.alloc (.map #[] 0)) (Rel.push hr (.map []) (some (.map #[] 0)) ?_) hp ?_
 ·exact ⟨w.heap.size,[],0,Zv _ _,YH _,EntSet.empty⟩
 ·exact ⟨[],w.heap.size,by simp,Zv _ _,rfl⟩
theorem Ext.fillHole {l:Nat} (hr:Rel μ h w) (hl:h[l]? = some .hole) (k:Blk) (y:Obj):Ext μ h w (μ.set l (some w.heap.size)) (h.set l k) (w.alloc y) where
 out:=rfl
 still:=rfl
 os:=rfl
 tape:=rfl
 output:=rfl
 size:=by simp
 len:=by simp
 keep:=fun b o v hc hm=>by
  have hlt:=Zcu hc
  refine ⟨?_,?_⟩
  ·simp only [World.cell?] at hc ⊢;rw [YV _ hlt];exact hc
  ·rintro (ho | ⟨l',k',hl',hm',ho⟩)
   ·exact hm (.inl ho)
   ·by_cases hll:l=l'
    ·subst hll
     rw [Zv] at hm'
     simp at hm'
     omega
    ·rw [Zj _ (fun e=>hll e.symm)] at hm'
     rw [List.getElem?_set_ne hll] at hl'
     exact hm (.inr ⟨l',k',hl',hm',ho⟩)
 outside:=fun b hb ho=>by
  refine ⟨YV _ hb,fun l' hl'=>?_⟩
  by_cases hll:l=l'
  ·subst hll
   rw [Zv]
   simp;omega
  ·rw [Zj _ (fun e=>hll e.symm)]
   exact ho l' (by simpa using hl')
 cells:=fun l' cs hl'=>by
  have hll:l≠l':=fun e=>by subst e;rw [hl] at hl';simp at hl'
  exact ⟨⟨cs,by rw [List.getElem?_set_ne hll];exact hl'⟩,Zj _ (fun e=>hll e.symm)⟩
 rows:=fun l' z rs wr hl'=>by
  have hll:l≠l':=fun e=>by subst e;rw [hl] at hl';simp at hl'
  exact ⟨rs,wr,by rw [List.getElem?_set_ne hll];exact hl',Nat.le_refl _,fun _=>Zj _ (fun e=>hll e.symm)⟩
 maps:=fun l' es hl'=>by
  have hll:l≠l':=fun e=>by subst e;rw [hl] at hl';simp at hl'
  exact ⟨⟨es,by rw [List.getElem?_set_ne hll];exact hl'⟩,Zj _ (fun e=>hll e.symm)⟩
 sizes:=fun b vs T hb=>⟨vs,hb.eq (YV _ hb.lt),rfl⟩
theorem Rel.fillHole {l:Nat} {k:Blk} {y:Obj} (hr:Rel μ h w) (hl:h[l]? = some .hole) (hk:ZfF (μ.set l (some w.heap.size)) (h.set l k) (w.alloc y) l k):Rel (μ.set l (some w.heap.size)) (h.set l k) (w.alloc y) where
 inj:=fun l1 l2 b hl1 hl2 hm1 hm2=>by
  simp only [List.length_set] at hl1 hl2
  by_cases h1:l1=l<;>by_cases h2:l2=l
  ·omega
  ·subst h1
   rw [Zv] at hm1
   rw [Zj _ h2] at hm2
   have:=hr.mapped hl2 hm2
   simp at hm1
   omega
  ·subst h2
   rw [Zv] at hm2
   rw [Zj _ h1] at hm1
   have:=hr.mapped hl1 hm1
   simp at hm2
   omega
  ·rw [Zj _ h1] at hm1
   rw [Zj _ h2] at hm2
   exact hr.inj l1 l2 b hl1 hl2 hm1 hm2
 blk:=fun l' k' hl'=>by
  have hll:l < h.length:=(List.getElem?_eq_some_iff.1 hl).1
  have e:=Ext.fillHole hr hl k y
  by_cases h1:l=l'
  ·subst h1
   rw [List.getElem?_set_self hll] at hl'
   simp only [Option.some.injEq] at hl'
   subst hl'
   exact hk
  ·rw [List.getElem?_set_ne h1] at hl'
   have h1':l'≠l:=fun e=>h1 e.symm
   have hsame:∀ b,b < w.heap.size→(w.alloc y).heap[b]? = w.heap[b]? := fun b hb=>YV _ hb
   have:=hr.blk l' k' hl'
   cases k' with
   | cells cs =>
    obtain ⟨b,vs,T,h3,h4,h5,h6⟩:=this
    exact ⟨b,vs,T,by rw [Zj _ h1'];exact h3,by rw [hsame b (J1 h4)];exact h4,h5,RepL.ext e cs vs h6⟩
   | rows z rs wr =>
    rcases this with ⟨h3,h4⟩ | ⟨b,vs,T,h3,h4,h5,h6⟩
    ·exact .inl ⟨h3,by rw [Zj _ h1'];exact h4⟩
    ·exact .inr ⟨b,vs,T,by rw [Zj _ h1'];exact h3,h4.eq (hsame b h4.lt),h5,h6.ext e⟩
   | hole =>
    show (μ.set l (some w.heap.size)) l'=none
    rw [Zj _ h1'];exact this
   | map es =>
    obtain ⟨b,ms,c,h3,h4,h5⟩:=this
    exact ⟨b,ms,c,by rw [Zj _ h1'];exact h3,by rw [hsame b (J1 h4)];exact h4,h5.keep e.keep⟩
 apart:=fun l' b o hl' hm ho=>by
  by_cases h1:l'=l
  ·subst h1
   rw [Zv] at hm
   have:=hr.old b o ho
   simp at hm;omega
  ·rw [Zj _ h1] at hm
   exact hr.apart l' b o (by simpa using hl') hm ho
 old:=fun b o ho=>Nat.lt_of_lt_of_le (hr.old b o ho) (Ext.fillHole hr hl k y).size
 still:=(hr.carry (Ext.fillHole hr hl k y)).1
 base:=(hr.carry (Ext.fillHole hr hl k y)).2
theorem ZgX {t:TypeId} {l:Nat} {v:Value} {y:AV} (hr:Rel μ h w) (e:fill h l (some y)=some (x,h')) (hy:Rep μ h w y v)
  (hrun:(execOp a.eval o).run P w=.ok (.value (.pointer (some ⟨w.heap.size,0,none⟩))) (w.alloc (.cells v.cells t))):Wa P o a μ h w x h':=by
 simp only [fill] at e
 split at e
 ·rename_i cs hcs hl
  simp only [Option.some.injEq,Prod.mk.injEq] at e
  obtain ⟨rfl,rfl⟩:=e
  obtain ⟨hs,hlr⟩:=Xe hcs hy
  intro next Q hn
  unfold Oper.wp
  rw [hrun]
  have hll:l < h.length:=(List.getElem?_eq_some_iff.1 hl).1
  have hp:=Ext.fillHole hr hl (.cells cs) (.cells v.cells t)
  refine hn _ (μ.set l (some w.heap.size)) (w.alloc (.cells v.cells t)) (Rel.fillHole hr hl ?_) hp ?_
  ·exact ⟨w.heap.size,v.cells.toList,t,Zv _ _,by rw [Array.toArray_toList];exact YH _,hs,RepL.ext hp cs _ hlr⟩
  ·exact ⟨cs,w.heap.size,by simp [hll],Zv _ _,rfl⟩
 ·simp at e
theorem Zlr {C:Cfg} {l:Nat} {ev:Operand→AV} (hr:Rel μ h w) (he:XB μ h w ev a.eval) (e:Zay C ev h l o.op=some (x,h')):Wa C.P o a μ h w x h':=by
 unfold Zay at e
 split at e
 ·rename_i t ho
  cases hz:zv C.P t with
  | none=>rw [hz] at e;simp [fill] at e
  | some y =>
   rw [hz] at e
   obtain ⟨i,z,_,_,h3,h4⟩:=Zco (w:=w) hz
   refine ZgX (t:=t) (v:=z) hr e (by rw [h3];exact Rep.pure _ _ (XE z)) ?_
   simp only [execOp,ho,Instr.alloc,Sem.run_bind,h4,QS,Result.andThen_ok,Sem.run_pure]
 ·rename_i t y ho
  refine ZgX (t:=t) (v:=a.eval y) hr e (he y) ?_
  simp only [execOp,ho,Instr.box,Sem.run_bind,QS,Result.andThen_ok,Sem.run_pure]
 ·rename_i t ho
  unfold ZiK at e
  split at e
  ·rename_i hl
   simp only [Option.some.injEq,Prod.mk.injEq] at e
   obtain ⟨rfl,rfl⟩:=e
   intro next Q hn
   have hrun:(execOp a.eval o).run C.P w=.ok (.value (.map (some w.heap.size))) (w.alloc (.map #[] 0)):=by
    simp only [execOp,ho,Instr.makeMap]
    rfl
   unfold Oper.wp
   rw [hrun]
   have hll:l < h.length:=(List.getElem?_eq_some_iff.1 hl).1
   have hp:=Ext.fillHole hr hl (.map []) (.map #[] 0)
   refine hn _ (μ.set l (some w.heap.size)) (w.alloc (.map #[] 0)) (Rel.fillHole hr hl ?_) hp ?_
   ·exact ⟨w.heap.size,[],0,Zv _ _,YH _,EntSet.empty⟩
   ·exact ⟨[],w.heap.size,by simp [hll],Zv _ _,rfl⟩
  ·simp at e
 ·rename_i t n m ho
  unfold Zju at e
  split at e
  ·rename_i l0 k b heq
   split at e
   ·rename_i hl
    simp only [Option.some.injEq,Prod.mk.injEq] at e
    obtain ⟨rfl,rfl⟩:=e
    obtain ⟨z,rs,arr,el,h1,h2,hrun,hsz,hin⟩:=Za2 (he n) (he m) heq
    simp only [List.length_nil,AV.own.injEq,List.nil_append,List.cons.injEq,and_true] at h1 h2
    obtain ⟨_,rfl⟩:=h1
    subst h2
    have hll:l < h.length:=(List.getElem?_eq_some_iff.1 hl).1
    have ex:=Ext.fillHole hr hl (.rows z rs true) (.cells arr el)
    have hheap:(w.alloc (.cells arr el)).heap[w.heap.size]? = some (.cells arr el (0,0)):=YH _
    refine JL (s:=Instr.makeSlice t (a.eval n) (a.eval m)) ?_ ⟨_,μ.set l (some w.heap.size),w.alloc (.cells arr el),hrun,Rel.fillHole hr hl ?_,ex,?_⟩
    ·simp only [execOp,ho,Sem.run_bind]
     rfl
    ·exact .inr ⟨w.heap.size,arr,el,Zv _ _,.free hheap,by simp [hsz],(hin.keep ex.keep).some⟩
    ·exact ⟨z,rs,true,_,rs.length,by simp [hll],by simp,rfl,fun _=>⟨Nat.le_refl _,fun h00=>h00,.inr ⟨w.heap.size,arr,el,rfl,Zv _ _,⟨_,hheap⟩,by rw [hsz];exact Nat.le_refl _⟩⟩⟩
   ·simp at e
  ·simp at e
 ·simp at e
end
section
variable {Bs:World→Prop}
variable {μ μ':Mp Bs} {h h':Zd} {w:World} {σ:Nat→Nat}
theorem Zmu (σ:Nat→Nat):∀ (rs:List (List AV)) (i:Nat),(XK σ rs)[i]? = rs[i]?.map (XI σ)
 | [],i=>by simp [XK]
 | r::rs,0=>by simp [XK]
 | r::rs,i+1=>by simp only [XK,List.getElem?_cons_succ];exact Zmu σ rs i
theorem Yn (σ:Nat→Nat):∀ rs:List (List AV),(XK σ rs).length=rs.length
 | []=>rfl
 | r::rs=>by simp [XK,Yn σ rs]
theorem ZmX (σ:Nat→Nat):∀ (l:List AV) (i:Nat),(XI σ l)[i]? = l[i]?.map (ren σ)
 | [],i=>by simp [XI]
 | a::l,0=>by simp [XI]
 | a::l,i+1=>by simp only [XI,List.getElem?_cons_succ];exact ZmX σ l i
theorem Zd6 (σ:Nat→Nat):∀ l:List AV,(XI σ l).length=l.length
 | []=>rfl
 | a::l=>by simp [XI,Zd6 σ l]
theorem Zfn:∀ {l:List AV} {a:AV} {i:Nat},a∈l→i∈Zm a→i∈Zk l
 | b::l,a,i,ha,hi=>by
  show i∈Zm b++Zk l
  rcases List.mem_cons.1 ha with rfl | ha
  ·exact List.mem_append_left _ hi
  ·exact List.mem_append_right _ (Zfn ha hi)
theorem ZeU:∀ {rs:List (List AV)} {row:List AV} {i:Nat},row∈rs→i∈Zk row→i∈ZL rs
 | b::l,a,i,ha,hi=>by
  show i∈Zk b++ZL l
  rcases List.mem_cons.1 ha with rfl | ha
  ·exact List.mem_append_left _ hi
  ·exact List.mem_append_right _ (ZeU ha hi)
def XM (μ:Mp Bs) (h:Zd) (μ':Mp Bs) (h':Zd) (σ:Nat→Nat) (l:Nat):Prop :=
 ∀ k,h[l]? = some k→h'[σ l]? = some (Zap σ k)∧μ' (σ l)=μ l
theorem OwnRep.ren {l n:Nat} {v:Value} (hk:XM μ h μ' h' σ l) (r:OwnRep μ h w l n v):OwnRep μ' h' w (σ l) n v:=by
 obtain ⟨z,rs,wr,base,cap,hl,hn,hs,hv⟩:=r
 obtain ⟨h1,h2⟩:=hk _ hl
 refine ⟨z,XK σ rs,wr,base,cap,h1,by rw [Yn];exact hn,hs,fun e=>?_⟩
 rw [Yn] at e
 obtain ⟨h3,h4,h5⟩:=hv e
 refine ⟨h3,h4,?_⟩
 rcases h5 with h5 | ⟨b,vs,T,hb,hm,hw,hz⟩
 ·exact .inl h5
 ·exact .inr ⟨b,vs,T,hb,h2.trans hm,hw,hz⟩
theorem TownRep.ren {t l n:Nat} {v:Value} (hk:XM μ h μ' h' σ l) (r:TownRep μ h w t l n v):TownRep μ' h' w t (σ l) n v:=by
 obtain ⟨z,rs,wr,base,cap,hl,hn,hs,hv⟩:=r
 obtain ⟨h1,h2⟩:=hk _ hl
 refine ⟨z,XK σ rs,wr,base,cap,h1,by rw [Yn];exact hn,hs,fun e=>?_⟩
 rw [Yn] at e
 obtain ⟨h3,h4,h5⟩:=hv e
 refine ⟨h3,h4,?_⟩
 rcases h5 with h5 | ⟨b,vs,hb,hm,hw,hz⟩
 ·exact .inl h5
 ·exact .inr ⟨b,vs,hb,h2.trans hm,hw,hz⟩
theorem TptrRep.ren {t l o:Nat} {v:Value} (hk:XM μ h μ' h' σ l) (r:TptrRep μ h w t l o v):TptrRep μ' h' w t (σ l) o v:=by
 obtain ⟨cs,b,hl,hm,hv⟩:=r
 obtain ⟨h1,h2⟩:=hk _ hl
 exact ⟨XI σ cs,b,h1,h2.trans hm,hv⟩
theorem OptrRep.ren {l n i o:Nat} {v:Value} (hk:XM μ h μ' h' σ l) (r:OptrRep μ h l n i o v):OptrRep μ' h' (σ l) n i o v:=by
 obtain ⟨z,rs,wr,b,hl,hn,hs,hv⟩:=r
 obtain ⟨h1,h2⟩:=hk _ hl
 exact ⟨z,XK σ rs,wr,b,h1,by rw [Yn];exact hn,hs,fun e=>h2.trans (hv (by rw [Yn] at e;exact e))⟩
theorem MpRep.ren {l:Nat} {v:Value} (hk:XM μ h μ' h' σ l) (r:MpRep μ h l v):MpRep μ' h' (σ l) v:=by
 obtain ⟨es,b,hl,hm,hv⟩:=r
 obtain ⟨h1,h2⟩:=hk _ hl
 exact ⟨es,b,h1,h2.trans hm,hv⟩
theorem PtrRep.ren {l o:Nat} {v:Value} (hk:XM μ h μ' h' σ l) (r:PtrRep μ h l o v):PtrRep μ' h' (σ l) o v:=by
 obtain ⟨cs,b,hl,hm,hv⟩:=r
 obtain ⟨h1,h2⟩:=hk _ hl
 exact ⟨XI σ cs,b,h1,h2.trans hm,hv⟩
mutual
theorem Rep.ren (hM:∀ b o,Mut μ' h' b o→Mut μ h b o):∀ (a:AV) (v:Value),(∀ l,l∈Zm a→XM μ h μ' h' σ l)→Rep μ h w a v→Rep μ' h' w (Go.Ab.ren σ a) v
 | .agg cs,_,hk,r=>by
  obtain ⟨vs,hv,r⟩:=r
  exact ⟨vs,hv,RepL.ren hM cs vs hk r⟩
 | .tup cs,_,hk,r=>by
  obtain ⟨vs,hv,r⟩:=r
  exact ⟨vs,hv,RepL.ren hM cs vs hk r⟩
 | .fn _ cs,_,hk,r=>by
  obtain ⟨vs,hv,r⟩:=r
  exact ⟨vs,hv,RepL.ren hM cs vs hk r⟩
 | .bnd _ cs,_,hk,r=>by
  obtain ⟨vs,hv,r⟩:=r
  exact ⟨vs,hv,RepL.ren hM cs vs hk r⟩
 | .iface _ a,_,hk,r=>by
  obtain ⟨x,hv,r⟩:=r
  exact ⟨x,hv,Rep.ren hM a x hk r⟩
 | .ptr l _,_,hk,r=>PtrRep.ren (hk l (by simp [Zm])) r
 | .own l _,_,hk,r=>OwnRep.ren (hk l (by simp [Zm])) r
 | .optr l _ _ _,_,hk,r=>OptrRep.ren (hk l (by simp [Zm])) r
 | .mp l,_,hk,r=>MpRep.ren (hk l (by simp [Zm])) r
 | .tptr _ l _,_,hk,r=>TptrRep.ren (hk l (by simp [Zm])) r
 | .town _ l _,_,hk,r=>TownRep.ren (hk l (by simp [Zm])) r
 | .int _ _,_,_,r=>r
 | .bool _,_,_,r=>r
 | .str _,_,_,r=>r
 | .nilp,_,_,r=>r
 | .nilf,_,_,r=>r
 | .nili,_,_,r=>r
 | .emp _,_,_,r=>r
 | .nilm,_,_,r=>r
 | .nils,_,_,r=>r
 | .rows rs,v,_,r=>PRep.keep (fun b o v hc hm=>⟨hc,fun hx=>hm (hM b o hx)⟩) (.rows rs) v r
 | .lit rs,v,_,r=>PRep.keep (fun b o v hc hm=>⟨hc,fun hx=>hm (hM b o hx)⟩) (.lit rs) v r
 | .rptr row o,v,_,r=>PRep.keep (fun b o v hc hm=>⟨hc,fun hx=>hm (hM b o hx)⟩) (.rptr row o) v r
 | .any,_,_,r=>r
theorem RepL.ren (hM:∀ b o,Mut μ' h' b o→Mut μ h b o):∀ (l:List AV) (vs:List Value),(∀ i,i∈Zk l→XM μ h μ' h' σ i)→RepL μ h w l vs→RepL μ' h' w (XI σ l) vs
 | [],_,_,r=>r
 | a::r,_,hk,x=>by
  obtain ⟨v,vr,hv,h1,h2⟩:=x
  exact ⟨v,vr,hv,Rep.ren hM a v (fun l hl=>hk l (by simp [Zk,hl])) h1,RepL.ren hM r vr (fun l hl=>hk l (by simp [Zk,hl])) h2⟩
end
mutual
/-- Places of a value are places of the memory. -/
theorem Rep.locs_lt:∀ (a:AV) (v:Value),Rep μ h w a v→∀ l,l∈Zm a→l < h.length
 | .agg cs,_,r,l,hl=>by
  obtain ⟨vs,hv,r⟩:=r
  exact RepL.locs_lt cs vs r l hl
 | .tup cs,_,r,l,hl=>by
  obtain ⟨vs,hv,r⟩:=r
  exact RepL.locs_lt cs vs r l hl
 | .fn _ cs,_,r,l,hl=>by
  obtain ⟨vs,hv,r⟩:=r
  exact RepL.locs_lt cs vs r l hl
 | .bnd _ cs,_,r,l,hl=>by
  obtain ⟨vs,hv,r⟩:=r
  exact RepL.locs_lt cs vs r l hl
 | .iface _ a,_,r,l,hl=>by
  obtain ⟨x,hv,r⟩:=r
  exact Rep.locs_lt a x r l hl
 | .ptr _ _,_,r,l,hl=>by
  obtain ⟨cs,b,h1,_⟩:=r
  simp only [Zm,List.mem_singleton] at hl
  subst hl
  exact (List.getElem?_eq_some_iff.1 h1).1
 | .own _ _,_,r,l,hl=>by
  obtain ⟨_,_,_,_,_,h1,_⟩:=r
  simp only [Zm,List.mem_singleton] at hl
  subst hl
  exact (List.getElem?_eq_some_iff.1 h1).1
 | .optr _ _ _ _,_,r,l,hl=>by
  obtain ⟨_,_,_,_,h1,_⟩:=r
  simp only [Zm,List.mem_singleton] at hl
  subst hl
  exact (List.getElem?_eq_some_iff.1 h1).1
 | .mp _,_,r,l,hl=>by
  obtain ⟨_,_,h1,_⟩:=r
  simp only [Zm,List.mem_singleton] at hl
  subst hl
  exact (List.getElem?_eq_some_iff.1 h1).1
 | .tptr _ _ _,_,r,l,hl=>by
  obtain ⟨_,_,h1,_⟩:=r
  simp only [Zm,List.mem_singleton] at hl
  subst hl
  exact (List.getElem?_eq_some_iff.1 h1).1
 | .town _ _ _,_,r,l,hl=>by
  obtain ⟨_,_,_,_,_,h1,_⟩:=r
  simp only [Zm,List.mem_singleton] at hl
  subst hl
  exact (List.getElem?_eq_some_iff.1 h1).1
 | .int _ _,_,_,_,hl=>by simp [Zm] at hl
 | .bool _,_,_,_,hl=>by simp [Zm] at hl
 | .str _,_,_,_,hl=>by simp [Zm] at hl
 | .nilp,_,_,_,hl=>by simp [Zm] at hl
 | .nilf,_,_,_,hl=>by simp [Zm] at hl
 | .nili,_,_,_,hl=>by simp [Zm] at hl
 | .emp _,_,_,_,hl=>by simp [Zm] at hl
 | .nilm,_,_,_,hl=>by simp [Zm] at hl
 | .nils,_,_,_,hl=>by simp [Zm] at hl
 | .rows _,_,_,_,hl=>by simp [Zm] at hl
 | .lit _,_,_,_,hl=>by simp [Zm] at hl
 | .rptr _ _,_,_,_,hl=>by simp [Zm] at hl
 | .any,_,_,_,hl=>by simp [Zm] at hl
theorem RepL.locs_lt:∀ (c:List AV) (vs:List Value),RepL μ h w c vs→∀ l,l∈Zk c→l < h.length
 | [],_,_,_,hl=>by simp [Zk] at hl
 | a::r,_,x,l,hl=>by
  obtain ⟨v,vr,hv,h1,h2⟩:=x
  simp only [Zk,List.mem_append] at hl
  rcases hl with hl | hl
  ·exact Rep.locs_lt a v h1 l hl
  ·exact RepL.locs_lt r vr h2 l hl
end
theorem XO:∀ (ls:List Nat) (l:Nat),YX ls l < ls.length↔l∈ls
 | [],l=>by simp [YX]
 | x::r,l=>by
  by_cases hx:x=l
  ·simp [YX,hx]
  ·have:=XO r l
   simp only [YX,if_neg hx,List.length_cons,List.mem_cons]
   constructor
   ·intro h;exact .inr (this.1 (by omega))
   ·rintro (h | h)
    ·exact absurd h.symm hx
    ·have:=this.2 h;omega
theorem Wq:∀ (ls:List Nat) (l:Nat),l∈ls→ls[YX ls l]? = some l
 | [],l,h=>by simp at h
 | x::r,l,h=>by
  by_cases hx:x=l
  ·simp [YX,hx]
  ·simp only [YX,if_neg hx,List.getElem?_cons_succ]
   refine Wq r l ?_
   rcases List.mem_cons.1 h with h | h
   ·exact absurd h.symm hx
   ·exact h
theorem QF:∀ (ls:List Nat) (i l:Nat),ls.Nodup→ls[i]? = some l→YX ls l=i
 | [],i,l,_,h=>by simp at h
 | x::r,0,l,_,h=>by
  simp only [List.getElem?_cons_zero,Option.some.injEq] at h
  simp [YX,h]
 | x::r,i+1,l,hn,h=>by
  simp only [List.getElem?_cons_succ] at h
  have hne:x≠l:=fun e=>by
   subst e
   exact (List.nodup_cons.1 hn).1 (List.mem_of_getElem? h)
  simp only [YX,if_neg hne]
  rw [QF r i l (List.nodup_cons.1 hn).2 h]
theorem Xs (h:Zd):∀ (n:Nat) (l s:List Nat),s.Nodup→(YO h n l s).Nodup
 | 0,l,s,hs=>by simpa [YO] using hs
 | n+1,[],s,hs=>by simpa [YO] using hs
 | n+1,l::r,s,hs=>by
  simp only [YO]
  split
  ·exact Xs h n r s hs
  ·rename_i hc
   have hl:l∉s:=by simpa using hc
   have:(s++[l]).Nodup:=by
    rw [List.nodup_append]
    refine ⟨hs,by simp,fun a ha b hb=>?_⟩
    simp only [List.mem_singleton] at hb
    subst hb
    exact fun e=>hl (e▸ha)
   split
   ·exact Xs h n _ _ this
   ·exact Xs h n _ _ this
theorem Zdk (h:Zd) (σ:Nat→Nat):∀ (ls:List Nat) (hs:Zd),sub h σ ls=some hs→hs.length=ls.length∧∀ (i l:Nat),ls[i]? = some l→∃ b:Blk,h[l]? = some b∧hs[i]? = some (Zap σ b)
 | [],hs,e=>by
  simp only [sub,Option.some.injEq] at e
  subst e
  exact ⟨rfl,fun i l hl=>by simp at hl⟩
 | x::r,hs,e=>by
  simp only [sub] at e
  split at e
  ·rename_i b hb
   split at e
   ·rename_i hs' he
    simp only [Option.some.injEq] at e
    subst e
    obtain ⟨h1,h2⟩:=Zdk h σ r hs' he
    refine ⟨by simp [h1],fun i l hl=>?_⟩
    cases i with
    | zero =>
     simp only [List.getElem?_cons_zero,Option.some.injEq] at hl
     subst hl
     exact ⟨b,hb,by simp⟩
    | succ i =>
     simp only [List.getElem?_cons_succ] at hl ⊢
     exact h2 i l hl
   ·simp at e
  ·simp at e
theorem Yo {n:Nat}:∀ {l:List Nat},Z6 n l=true→∀ i,i∈l→i < n
 | [],_,i,hi=>by simp at hi
 | x::r,e,i,hi=>by
  simp only [Z6,Bool.and_eq_true,decide_eq_true_eq] at e
  rcases List.mem_cons.1 hi with rfl | hi
  ·exact e.1
  ·exact Yo e.2 i hi
theorem YP:∀ {h:Zd} {i:Nat} {b:Blk},h[i]? = some b→∀ l,l∈Xj b→l∈ZP h
 | [],_,_,e,_,_=>by simp at e
 | x::r,0,b,e,l,hl=>by
  simp only [List.getElem?_cons_zero,Option.some.injEq] at e
  subst e
  simp [ZP,hl]
 | x::r,i+1,b,e,l,hl=>by
  simp only [List.getElem?_cons_succ] at e
  have:=YP e l hl
  simp [ZP,this]
mutual
theorem ZiT (σ:Nat→Nat):∀ a:AV,Zm (ren σ a)=(Zm a).map σ
 | .agg cs=>by simp only [ren,Zm];exact Wl σ cs
 | .tup cs=>by simp only [ren,Zm];exact Wl σ cs
 | .fn _ cs=>by simp only [ren,Zm];exact Wl σ cs
 | .bnd _ cs=>by simp only [ren,Zm];exact Wl σ cs
 | .iface _ a=>by simp only [ren,Zm];exact ZiT σ a
 | .ptr _ _=>by simp [ren,Zm]
 | .own _ _=>by simp [ren,Zm]
 | .optr _ _ _ _=>by simp [ren,Zm]
 | .mp _=>rfl
 | .tptr _ _ _=>by simp [ren,Zm]
 | .town _ _ _=>by simp [ren,Zm]
 | .int _ _=>by simp [ren,Zm]
 | .bool _=>by simp [ren,Zm]
 | .str _=>by simp [ren,Zm]
 | .nilp=>by simp [ren,Zm]
 | .nilf=>by simp [ren,Zm]
 | .nili=>by simp [ren,Zm]
 | .emp _=>by simp [ren,Zm]
 | .nilm=>by simp [ren,Zm]
 | .nils=>by simp [ren,Zm]
 | .rows _=>by simp [ren,Zm]
 | .lit _=>by simp [ren,Zm]
 | .rptr _ _=>by simp [ren,Zm]
 | .any=>by simp [ren,Zm]
theorem Wl (σ:Nat→Nat):∀ l:List AV,Zk (XI σ l)=(Zk l).map σ
 | []=>by simp [XI,Zk]
 | a::r=>by simp only [XI,Zk,List.map_append,ZiT σ a,Wl σ r]
end
theorem Qc (σ:Nat→Nat):∀ l:List AV,Zl (XI σ l)=Zl l
 | []=>rfl
 | a::r=>by
  have:=Qc σ r
  cases a<;>simp [XI,ren,Zl,ZB,this]
end
section
variable {Bs:World→Prop}
theorem Zdq (σ:Nat→Nat):∀ rs:List (List AV),ZL (XK σ rs)=(ZL rs).map σ
 | []=>rfl
 | r::rs=>by
  show Zk (XI σ r)++ZL (XK σ rs)=(Zk r++ZL rs).map σ
  rw [Wl,Zdq σ rs,List.map_append]
theorem RowsN.ren {Bs:World→Prop} {μ μ':Mp Bs} {h h':Zd} {w:World} {σ:Nat→Nat} {z:Nat} {rs:List (List AV)} {vs:Array Value} (F:∀ (a:AV) (v:Value),(∀ i,i∈Zm a→i∈ZL rs)→Rep μ h w a v→Rep μ' h' w (Go.Ab.ren σ a) v)
  (r:RowsN μ h w z rs vs):RowsN μ' h' w z (XK σ rs) vs:=by
 intro i row hrow
 rw [Zmu] at hrow
 cases hr:rs[i]? with
 | none=>rw [hr] at hrow;simp at hrow
 | some row0 =>
  rw [hr] at hrow
  simp only [Option.map_some,Option.some.injEq] at hrow
  subst hrow
  obtain ⟨h1,h2,h3⟩:=r i row0 hr
  refine ⟨by rw [Zd6];exact h1,by rw [Qc];exact h2,fun c a ha=>?_⟩
  rw [ZmX] at ha
  cases hc:row0[c]? with
  | none=>rw [hc] at ha;simp at ha
  | some a0 =>
   rw [hc] at ha
   simp only [Option.map_some,Option.some.injEq] at ha
   subst ha
   obtain ⟨v,h4,h5⟩:=h3 c a0 hc
   exact ⟨v,h4,F a0 v (fun i hi=>ZeU (List.mem_of_getElem? hr) (Zfn (List.mem_of_getElem? hc) hi)) h5⟩
def WF (μ:Mp Bs) (h:Zd) (ls:List Nat):Mp Bs :=
 ⟨fun i=>match ls[i]? with
  | some l=>μ l
  | none=>none,fun b o=>μ.out b o∨∃ (l:Nat) (k:Blk),l∉ls∧h[l]? = some k∧μ l=some b∧k.open_ o,μ.still⟩
structure IsPart (h:Zd) (ls:List Nat) (hs:Zd):Prop where
 nodup:ls.Nodup
 len:hs.length=ls.length
 there:∀ (i l:Nat),ls[i]? = some l→∃ b:Blk,h[l]? = some b∧hs[i]? = some (Zap (YX ls) b)
 closed:∀ l,l∈ZP hs→l < ls.length
structure Joins (h:Zd) (ls:List Nat) (h2 h3:Zd):Prop where
 le:ls.length≤h2.length
 len:h3.length=h.length+(h2.length - ls.length)
 old:∀ l,l < h.length→l∉ls→h3[l]? = h[l]?
 new:∀ (i:Nat) (b:Blk),h2[i]? = some b→h3[Y4 ls h.length i]? = some (Zap (Y4 ls h.length) b)
def WY (μ:Mp Bs) (h:Zd) (ls:List Nat) (μ2:Mp Bs):Mp Bs :=
 ⟨fun l=>if l < h.length then (if l∈ls then μ2 (YX ls l) else μ l) else μ2 (l - h.length+ls.length),μ.out,μ.still⟩
theorem Za0 (σ:Nat→Nat) (k:Blk) (o:Nat):(Zap σ k).open_ o↔k.open_ o:=by
 cases k with
 | rows z rs wr=>show (wr=true∨z*(XK σ rs).length≤o)↔_;rw [Yn];exact Iff.rfl
 | _=>exact Iff.rfl
end
section
variable {Bs:World→Prop}
variable {P:Program} {μ μ2:Mp Bs} {h hs h2 h3:Zd} {w w':World} {ls:List Nat}
theorem IsPart.lt (hp:IsPart h ls hs) {l:Nat} (hl:l∈ls):l < h.length:=by
 obtain ⟨b,h1,_⟩:=hp.there _ l (Wq ls l hl)
 exact (List.getElem?_eq_some_iff.1 h1).1
theorem XN {i l:Nat} (e:ls[i]? = some l):(WF μ h ls) i=μ l:=by simp only [WF,e]
theorem IsPart.nth (hp:IsPart h ls hs) {i:Nat} (hi:i < hs.length):∃ l,ls[i]? = some l∧l∈ls:=by
 rw [hp.len] at hi
 exact ⟨ls[i],List.getElem?_eq_getElem hi,List.getElem_mem hi⟩
theorem IsPart.keeps (hp:IsPart h ls hs) {l:Nat} (hl:l∈ls):XM μ h (WF μ h ls) hs (YX ls) l:=fun k hk=>by
 have hat:=Wq ls l hl
 obtain ⟨b,h1,h2⟩:=hp.there _ l hat
 rw [hk] at h1
 simp only [Option.some.injEq] at h1
 subst h1
 exact ⟨h2,XN hat⟩
theorem IsPart.mut (hp:IsPart h ls hs) {b o:Nat}:Mut (WF μ h ls) hs b o↔Mut μ h b o:=by
 constructor
 ·rintro ((ho | ⟨l,k,_,hl,hm,ho⟩) | ⟨i,k,hi,hm,ho⟩)
  ·exact .inl ho
  ·exact .inr ⟨l,k,hl,hm,ho⟩
  ·obtain ⟨l,e,_⟩:=hp.nth (List.getElem?_eq_some_iff.1 hi).1
   obtain ⟨b',h1,h2⟩:=hp.there i l e
   rw [hi] at h2
   simp only [Option.some.injEq] at h2
   subst h2
   rw [XN e] at hm
   exact .inr ⟨l,b',h1,hm,(Za0 _ _ _).1 ho⟩
 ·rintro (ho | ⟨l,k,hl,hm,ho⟩)
  ·exact .inl (.inl ho)
  ·by_cases hin:l∈ls
   ·have hat:=Wq ls l hin
    obtain ⟨b',h1,h2⟩:=hp.there _ l hat
    rw [hl] at h1
    simp only [Option.some.injEq] at h1
    subst h1
    exact .inr ⟨_,_,h2,by rw [XN hat];exact hm,(Za0 _ _ _).2 ho⟩
   ·exact .inl (.inr ⟨l,k,hin,hl,hm,ho⟩)
theorem IsPart.rep (hp:IsPart h ls hs) {l:List AV} {vs:List Value} (hu:∀ i,i∈Zk l→i∈ls) (r:RepL μ h w l vs):RepL (WF μ h ls) hs w (XI (YX ls) l) vs :=
 RepL.ren (fun _ _ hx=>hp.mut.1 hx) l vs (fun i hi=>hp.keeps (hu i hi)) r
theorem IsPart.rel (hp:IsPart h ls hs) (hr:Rel μ h w):Rel (WF μ h ls) hs w where
 inj:=fun i j b hi hj hm hm'=>by
  obtain ⟨l,e,hl⟩:=hp.nth hi
  obtain ⟨l',e',hl'⟩:=hp.nth hj
  rw [XN e] at hm
  rw [XN e'] at hm'
  have:l=l':=hr.inj l l' b (hp.lt hl) (hp.lt hl') hm hm'
  subst this
  rw [←QF ls i l hp.nodup e,←QF ls j l hp.nodup e']
 blk:=fun i k hi=>by
  obtain ⟨l,e,hl⟩:=hp.nth (List.getElem?_eq_some_iff.1 hi).1
  obtain ⟨b',h1,h2⟩:=hp.there i l e
  rw [hi] at h2
  simp only [Option.some.injEq] at h2
  subst h2
  have hi0:=hi
  have:=hr.blk l b' h1
  cases b' with
  | cells cs =>
   obtain ⟨b,vs,T,h3,h4,h5,h6⟩:=this
   refine ⟨b,vs,T,by rw [XN e];exact h3,h4,by rw [Qc];exact h5,hp.rep (fun j hj=>?_) h6⟩
   refine (XO ls j).1 (hp.closed _ (YP hi _ ?_))
   show _∈Zk (XI _ cs)
   rw [Wl]
   exact List.mem_map_of_mem hj
  | rows z rs wr =>
   rcases this with ⟨h3,h4⟩ | ⟨b,vs,T,h3,h4,h5,h6⟩
   ·exact .inl ⟨by rw [h3];rfl,by rw [XN e];exact h4⟩
   ·refine .inr ⟨b,vs,T,by rw [XN e];exact h3,by rw [Yn];exact h4,by rw [Yn];exact h5,h6.ren fun a v hi r=>Rep.ren (fun _ _ hx=>hp.mut.1 hx) a v (fun j hj=>hp.keeps ((XO ls j).1 (hp.closed _ (YP hi0 _ ?_)))) r⟩
    show _∈ZL (XK _ rs)
    rw [Zdq]
    exact List.mem_map_of_mem (hi j hj)
  | hole =>
   show (WF μ h ls) i=none
   rw [XN e];exact this
  | map es =>
   obtain ⟨b,ms,c,h3,h4,h5⟩:=this
   exact ⟨b,ms,c,by rw [XN e];exact h3,h4,h5.keep fun b o v hc hm=>⟨hc,fun hx=>hm (hp.mut.1 hx)⟩⟩
 apart:=fun i b o hi hm ho=>by
  obtain ⟨l,e,hl⟩:=hp.nth hi
  rw [XN e] at hm
  rcases ho with ho | ⟨l',k,hn,hl',hm',_⟩
  ·exact hr.apart l b o (hp.lt hl) hm ho
  ·have:l'=l:=hr.inj l' l b (List.getElem?_eq_some_iff.1 hl').1 (hp.lt hl) hm' hm
   subst this
   exact hn hl
 still:=fun b hb=>⟨(hr.still b hb).1,fun i hi hx=>by
  obtain ⟨l,e,hl⟩:=hp.nth hi
  rw [XN e] at hx
  exact (hr.still b hb).2 l (hp.lt hl) hx⟩
 base:=hr.base
 old:=fun b o ho=>by
  rcases ho with ho | ⟨l,k,_,hl,hm,_⟩
  ·exact hr.old b o ho
  ·exact hr.mapped (List.getElem?_eq_some_iff.1 hl).1 hm
theorem XX {i l m:Nat} (e:ls[i]? = some l):Y4 ls m i=l:=by simp only [Y4,e]
theorem JR {i m:Nat} (e:ls.length≤i):Y4 ls m i=m+(i - ls.length):=by
 simp only [Y4,List.getElem?_eq_none e]
theorem Yd (hp:IsPart h ls hs) (i:Nat):(WY μ h ls μ2) (Y4 ls h.length i)=μ2 i:=by
 by_cases hi:i < ls.length
 ·obtain ⟨l,e,hl⟩:=hp.nth (by rw [hp.len];exact hi)
  rw [XX e]
  simp only [WY,hp.lt hl,if_true,hl]
  rw [QF ls i l hp.nodup e]
 ·rw [JR (Nat.le_of_not_lt hi)]
  have h1:¬(h.length+(i - ls.length) < h.length):=by omega
  simp only [WY,h1,if_false]
  congr 1
  omega
theorem Ye {l:Nat} (h1:l < h.length) (h2:l∉ls):(WY μ h ls μ2) l=μ l:=by simp only [WY,h1,if_true,h2,if_false]
theorem Joins.cover (hj:Joins h ls h2 h3) {l:Nat} (hl:l < h3.length):(l < h.length∧l∉ls)∨∃ i,i < h2.length∧l=Y4 ls h.length i:=by
 by_cases h1:l < h.length
 ·by_cases h4:l∈ls
  ·exact .inr ⟨YX ls l,Nat.lt_of_lt_of_le ((XO ls l).2 h4) hj.le,(XX (Wq ls l h4)).symm⟩
  ·exact .inl ⟨h1,h4⟩
 ·refine .inr ⟨l - h.length+ls.length,?_,?_⟩
  ·have:=hj.len
   have:=hj.le
   omega
  ·rw [JR (by omega)]
   omega
theorem Joins.at_outer (hj:Joins h ls h2 h3) {i:Nat} {k:Blk} (hi:i < h2.length) (e:h3[Y4 ls h.length i]? = some k):∃ b,h2[i]? = some b∧k=Zap (Y4 ls h.length) b:=by
 have:=hj.new i h2[i] (List.getElem?_eq_getElem hi)
 rw [this] at e
 simp only [Option.some.injEq] at e
 exact ⟨h2[i],List.getElem?_eq_getElem hi,e.symm⟩
theorem Joins.mut (hp:IsPart h ls hs) (hj:Joins h ls h2 h3) (ho:μ2.out=(WF μ h ls).out) {b o:Nat}:Mut (WY μ h ls μ2) h3 b o↔Mut μ2 h2 b o:=by
 constructor
 ·rintro (hx | ⟨l,k,hl,hm,hx⟩)
  ·exact .inl (by rw [ho];exact .inl hx)
  ·rcases hj.cover (List.getElem?_eq_some_iff.1 hl).1 with ⟨h1,h4⟩ | ⟨i,hi,rfl⟩
   ·rw [hj.old l h1 h4] at hl
    rw [Ye h1 h4] at hm
    exact .inl (by rw [ho];exact .inr ⟨l,k,h4,hl,hm,hx⟩)
   ·obtain ⟨b',h5,rfl⟩:=hj.at_outer hi hl
    rw [Yd hp] at hm
    exact .inr ⟨i,b',h5,hm,(Za0 _ _ _).1 hx⟩
 ·rintro (hx | ⟨i,k,hi,hm,hx⟩)
  ·rw [ho] at hx
   rcases hx with hx | ⟨l,k,hn,hl,hm,hx⟩
   ·exact .inl hx
   ·have hlt:=(List.getElem?_eq_some_iff.1 hl).1
    exact .inr ⟨l,k,by rw [hj.old l hlt hn];exact hl,by rw [Ye hlt hn];exact hm,hx⟩
  ·exact .inr ⟨_,_,hj.new i k hi,by rw [Yd hp];exact hm,(Za0 _ _ _).2 hx⟩
theorem Joins.keeps (hp:IsPart h ls hs) (hj:Joins h ls h2 h3) (i:Nat):XM μ2 h2 (WY μ h ls μ2) h3 (Y4 ls h.length) i :=
 fun k hk=>⟨hj.new i k hk,Yd hp i⟩
theorem Joins.rep (hp:IsPart h ls hs) (hj:Joins h ls h2 h3) (ho:μ2.out=(WF μ h ls).out) {a:AV} {v:Value} (r:Rep μ2 h2 w' a v):Rep (WY μ h ls μ2) h3 w' (ren (Y4 ls h.length) a) v :=
 Rep.ren (fun _ _ hx=>(hj.mut hp ho).1 hx) a v (fun i _=>hj.keeps hp i) r
theorem Joins.repL (hp:IsPart h ls hs) (hj:Joins h ls h2 h3) (ho:μ2.out=(WF μ h ls).out) {a:List AV} {v:List Value} (r:RepL μ2 h2 w' a v):RepL (WY μ h ls μ2) h3 w' (XI (Y4 ls h.length) a) v :=
 RepL.ren (fun _ _ hx=>(hj.mut hp ho).1 hx) a v (fun i _=>hj.keeps hp i) r
theorem QV (hp:IsPart h ls hs) (hr:Rel μ h w) (e:Ext (WF μ h ls) hs w μ2 h2 w') {l b:Nat} (h1:l < h.length) (h4:l∉ls) (hm:μ l=some b) :
  w'.heap[b]? = w.heap[b]? ∧ ∀ i,i < h2.length→μ2 i≠some b :=
 e.outside b (hr.mapped h1 hm) fun i hi hx=>by
  obtain ⟨l',e',hl'⟩:=hp.nth hi
  rw [XN e'] at hx
  have:l'=l:=hr.inj l' l b (hp.lt hl') h1 hx hm
  subst this
  exact h4 hl'
theorem Joins.ext (hp:IsPart h ls hs) (hj:Joins h ls h2 h3) (e:Ext (WF μ h ls) hs w μ2 h2 w'):Ext μ h w (WY μ h ls μ2) h3 w' where
 out:=rfl
 still:=rfl
 os:=e.os
 tape:=e.tape
 output:=e.output
 size:=e.size
 keep:=fun b o v hc hm=>by
  obtain ⟨h1,h4⟩:=e.keep b o v hc (fun hx=>hm (hp.mut.1 hx))
  exact ⟨h1,fun hx=>h4 ((hj.mut hp e.out).1 hx)⟩
 outside:=fun b hb ho=>by
  obtain ⟨h1,h4⟩:=e.outside b hb fun i hi hx=>by
   obtain ⟨l',e',hl'⟩:=hp.nth hi
   rw [XN e'] at hx
   exact ho l' (hp.lt hl') hx
  refine ⟨h1,fun l hl hx=>?_⟩
  rcases hj.cover hl with ⟨h5,h6⟩ | ⟨i,hi,rfl⟩
  ·rw [Ye h5 h6] at hx
   exact ho l h5 hx
  ·rw [Yd hp] at hx
   exact h4 i hi hx
 cells:=fun l cs hl=>by
  have hlt:=(List.getElem?_eq_some_iff.1 hl).1
  by_cases hin:l∈ls
  ·have hat:=Wq ls l hin
   obtain ⟨h1,h4⟩:=hp.keeps (μ:=μ) hin _ hl
   obtain ⟨⟨cs',h5⟩,h6⟩:=e.cells _ _ h1
   have:=hj.new _ _ h5
   rw [XX hat] at this
   refine ⟨⟨_,this⟩,?_⟩
   have h7:=Yd (μ:=μ) (μ2:=μ2) hp (YX ls l)
   rw [XX hat] at h7
   exact h7.trans (h6.trans h4)
  ·exact ⟨⟨cs,by rw [hj.old l hlt hin];exact hl⟩,Ye hlt hin⟩
 rows:=fun l z rs wr hl=>by
  have hlt:=(List.getElem?_eq_some_iff.1 hl).1
  by_cases hin:l∈ls
  ·have hat:=Wq ls l hin
   obtain ⟨h1,h4⟩:=hp.keeps (μ:=μ) hin _ hl
   obtain ⟨rs',wr',h5,h6,h7⟩:=e.rows _ _ _ _ h1
   have:=hj.new _ _ h5
   rw [XX hat] at this
   rw [Yn] at h6
   refine ⟨_,wr',this,by rw [Yn];exact h6,fun ee=>?_⟩
   rw [Yn] at ee
   have h8:=Yd (μ:=μ) (μ2:=μ2) hp (YX ls l)
   rw [XX hat] at h8
   exact h8.trans ((h7 (by rw [Yn];exact ee)).trans h4)
  ·exact ⟨rs,wr,by rw [hj.old l hlt hin];exact hl,Nat.le_refl _,fun _=>Ye hlt hin⟩
 len:=by
  have:=hj.len
  have:=hj.le
  omega
 maps:=fun l es hl=>by
  have hlt:=(List.getElem?_eq_some_iff.1 hl).1
  by_cases hin:l∈ls
  ·have hat:=Wq ls l hin
   obtain ⟨h1,h4⟩:=hp.keeps (μ:=μ) hin _ hl
   obtain ⟨⟨es',h5⟩,h6⟩:=e.maps _ _ h1
   have:=hj.new _ _ h5
   rw [XX hat] at this
   refine ⟨⟨_,this⟩,?_⟩
   have h7:=Yd (μ:=μ) (μ2:=μ2) hp (YX ls l)
   rw [XX hat] at h7
   exact h7.trans (h6.trans h4)
  ·exact ⟨⟨es,by rw [hj.old l hlt hin];exact hl⟩,Ye hlt hin⟩
 sizes:=e.sizes
theorem Joins.rel (hp:IsPart h ls hs) (hj:Joins h ls h2 h3) (hr:Rel μ h w) (hr2:Rel μ2 h2 w') (e:Ext (WF μ h ls) hs w μ2 h2 w'):Rel (WY μ h ls μ2) h3 w' where
 inj:=fun l l' b hl hl' hm hm'=>by
  rcases hj.cover hl with ⟨h1,h4⟩ | ⟨i,hi,rfl⟩<;>rcases hj.cover hl' with ⟨h1',h4'⟩ | ⟨j,hj',rfl⟩
  ·rw [Ye h1 h4] at hm
   rw [Ye h1' h4'] at hm'
   exact hr.inj l l' b h1 h1' hm hm'
  ·rw [Ye h1 h4] at hm
   rw [Yd hp] at hm'
   exact absurd hm' ((QV hp hr e h1 h4 hm).2 j hj')
  ·rw [Yd hp] at hm
   rw [Ye h1' h4'] at hm'
   exact absurd hm ((QV hp hr e h1' h4' hm').2 i hi)
  ·rw [Yd hp] at hm hm'
   rw [hr2.inj i j b hi hj' hm hm']
 blk:=fun l k hl=>by
  have ex:=hj.ext hp e
  rcases hj.cover (List.getElem?_eq_some_iff.1 hl).1 with ⟨h1,h4⟩ | ⟨i,hi,rfl⟩
  ·rw [hj.old l h1 h4] at hl
   have:=hr.blk l k hl
   cases k with
   | cells cs =>
    obtain ⟨b,vs,T,h5,h6,h7,h8⟩:=this
    exact ⟨b,vs,T,by rw [Ye h1 h4];exact h5,by rw [(QV hp hr e h1 h4 h5).1];exact h6,h7,RepL.ext ex cs vs h8⟩
   | rows z rs wr =>
    rcases this with ⟨h5,h6⟩ | ⟨b,vs,T,h5,h6,h7,h8⟩
    ·exact .inl ⟨h5,by rw [Ye h1 h4];exact h6⟩
    ·exact .inr ⟨b,vs,T,by rw [Ye h1 h4];exact h5,h6.eq (QV hp hr e h1 h4 h5).1,h7,h8.ext ex⟩
   | hole =>
    show (WY μ h ls μ2) l=none
    rw [Ye h1 h4];exact this
   | map es =>
    obtain ⟨b,ms,c,h5,h6,h7⟩:=this
    exact ⟨b,ms,c,by rw [Ye h1 h4];exact h5,by rw [(QV hp hr e h1 h4 h5).1];exact h6,h7.keep ex.keep⟩
  ·obtain ⟨b',h5,rfl⟩:=hj.at_outer hi hl
   have:=hr2.blk i b' h5
   cases b' with
   | cells cs =>
    obtain ⟨b,vs,T,h6,h7,h8,h9⟩:=this
    exact ⟨b,vs,T,by rw [Yd hp];exact h6,h7,by rw [Qc];exact h8,hj.repL hp e.out h9⟩
   | rows z rs wr =>
    rcases this with ⟨h6,h7⟩ | ⟨b,vs,T,h6,h7,h8,h9⟩
    ·exact .inl ⟨by rw [h6];rfl,by rw [Yd hp];exact h7⟩
    ·exact .inr ⟨b,vs,T,by rw [Yd hp];exact h6,by rw [Yn];exact h7,by rw [Yn];exact h8,h9.ren fun a v _ r=>Rep.ren (fun _ _ hx=>(hj.mut hp e.out).1 hx) a v (fun i _=>hj.keeps hp i) r⟩
   | hole =>
    show (WY μ h ls μ2) _=none
    rw [Yd hp];exact this
   | map es =>
    obtain ⟨b,ms,c,h6,h7,h8⟩:=this
    exact ⟨b,ms,c,by rw [Yd hp];exact h6,h7,h8.keep fun b o v hc hm=>⟨hc,fun hx=>hm ((hj.mut hp e.out).1 hx)⟩⟩
 apart:=fun l b o hl hm ho=>by
  rcases hj.cover hl with ⟨h1,h4⟩ | ⟨i,hi,rfl⟩
  ·rw [Ye h1 h4] at hm
   exact hr.apart l b o h1 hm ho
  ·rw [Yd hp] at hm
   refine hr2.apart i b o hi hm ?_
   rw [e.out]
   exact .inl ho
 old:=fun b o ho=>Nat.lt_of_lt_of_le (hr.old b o ho) e.size
 still:=(hr.carry (hj.ext hp e)).1
 base:=(hr.carry (hj.ext hp e)).2
end
section
variable {Bs:World→Prop}
variable {P:Program} {μ:Mp Bs} {h:Zd} {w:World} {a:Act} {o:Oper} {x:AV}
theorem ZbE {ev:Operand→AV} {ρ:Operand→Value} (hr:Rel μ h w) (he:XB μ h w ev ρ) (z:Nat):∀ (parts:List (Nat×Operand)) (k:Nat) (rs:List (List AV)),W5 h ev z k parts=some rs →
  ∃ flat:List Value,flat.length=rs.length*z∧RowsN μ h w z rs flat.toArray ∧
   ∀ arr:Array Value,(k+rs.length)*z≤arr.size→∃ us:Array Value,Instr.fill (fun i=>some (i*z,z)) arr (parts.map fun p=>(p.1,ρ p.2))=some us ∧
    us.toList=arr.toList.take (k*z)++flat++arr.toList.drop ((k+rs.length)*z)
 | [],k,rs,e=>by
  simp only [W5,Option.some.injEq] at e
  subst e
  refine ⟨[],by simp,fun i row e=>by simp at e,fun arr ha=>⟨arr,rfl,by simp⟩⟩
 | (j,x)::parts,k,rs,e=>by
  simp only [W5] at e
  split at e
  ·rename_i hk
   subst hk
   split at e
   ·rename_i cs hcs
    split at e
    ·rename_i hz
     split at e
     ·rename_i rs' hrs
      simp only [Option.some.injEq] at e
      subst e
      obtain ⟨flat,hf1,hf2,hf3⟩:=ZbE hr he z parts (k+1) rs' hrs
      obtain ⟨hs,hp⟩:=Xe hcs (Zd7 hr _ _ (he x))
      have hul:(ρ x).cells.toList.length=z:=by rw [hp.len];exact hz
      have hul':(ρ x).cells.size=z:=by simpa using hul
      refine ⟨(ρ x).cells.toList++flat,by simp only [List.length_append,hul,hf1,List.length_cons,Nat.succ_mul];omega,?_,?_⟩
      ·intro i row hrow
       cases i with
       | zero =>
        simp only [List.getElem?_cons_zero,Option.some.injEq] at hrow
        subst hrow
        refine ⟨hz,hs,fun c a ha=>?_⟩
        obtain ⟨u,h1,h2⟩:=(RepL.at cs _ hp).2 c a ha
        refine ⟨u,?_,h2⟩
        have hc:c < z:=by rw [←hz];exact (List.getElem?_eq_some_iff.1 ha).1
        simp only [Nat.zero_mul,Nat.zero_add,List.getElem?_toArray]
        rw [List.getElem?_append_left (by omega)];exact h1
       | succ i =>
        simp only [List.getElem?_cons_succ] at hrow
        obtain ⟨h1,h2,h3⟩:=hf2 i row hrow
        refine ⟨h1,h2,fun c a ha=>?_⟩
        obtain ⟨u,h4,h5⟩:=h3 c a ha
        refine ⟨u,?_,h5⟩
        simp only [List.getElem?_toArray] at h4 ⊢
        rw [List.getElem?_append_right (by rw [hul,Nat.succ_mul];omega),hul,show (i+1)*z+c - z=i*z+c from by rw [Nat.succ_mul];omega]
        exact h4
      ·intro arr ha
       simp only [List.length_cons] at ha
       have hA:k*z+z≤arr.size:=by
        have:(k+1)*z≤(k+(rs'.length+1))*z:=Nat.mul_le_mul_right z (by omega)
        rw [Nat.succ_mul] at this
        omega
       have hfold:=Zbc (k*z) (ρ x).cells.toList 0 arr (by simp;omega)
       obtain ⟨us,h1,h2⟩:=hf3 ((ρ x).cells.zipIdx.foldl (fun cs (y:Value×Nat)=>cs.setIfInBounds (k*z+y.2) y.1) arr) (by
        have:((ρ x).cells.zipIdx.foldl (fun cs (y:Value×Nat)=>cs.setIfInBounds (k*z+y.2) y.1) arr).toList.length=arr.size:=by
         rw [←Array.foldl_toList,Array.toList_zipIdx,hfold]
         simp
         omega
        rw [Array.length_toList] at this
        rw [this,show k+1+rs'.length=k+(rs'.length+1) from by omega]
        exact ha)
       refine ⟨us,?_,?_⟩
       ·simp only [List.map_cons,Instr.fill]
        rw [if_neg (by simp;omega)]
        exact h1
       ·rw [h2,←Array.foldl_toList,Array.toList_zipIdx,hfold]
        have e1:(arr.toList.take (k*z+0)++(ρ x).cells.toList).length=(k+1)*z:=by
         simp only [List.length_append,List.length_take,Array.length_toList,hul,Nat.succ_mul]
         omega
        rw [List.take_append_of_le_length (by rw [e1];exact Nat.le_refl _),List.take_of_length_le (by rw [e1];exact Nat.le_refl _)]
        rw [show (k+1+rs'.length)*z=(arr.toList.take (k*z+0)++(ρ x).cells.toList).length+rs'.length*z from by rw [e1,Nat.add_mul (k+1)]]
        rw [List.drop_append,List.drop_eq_nil_of_le (by omega),Nat.add_sub_cancel_left,List.drop_drop,List.nil_append]
        simp only [Nat.add_zero,List.append_assoc,hul,List.length_cons]
        congr 4
        rw [Nat.add_mul,Nat.add_mul,Nat.one_mul]
        omega
     ·simp at e
    ·simp at e
   ·simp at e
  ·simp at e
theorem Zh1 {t:TypeId} {n:Nat} {ev:Operand→AV} {ρ:Operand→Value} {parts:Array (Nat×Operand)} {h':Zd} (hr:Rel μ h w) (he:XB μ h w ev ρ) (e:Jv h ev n parts.toList (es P t)=some (x,h')) :
  ZhV P μ h w (Instr.buildSlice t n (parts.map fun (i,x)=>(i,ρ x))) x h':=by
 unfold Jv at e
 split at e
 ·rename_i z b hes
  obtain ⟨u,i,y,hu,hi,hz,_,hy,_⟩:=Zbg hes
  unfold Ze9 at e
  split at e
  ·rename_i rs hrs
   split at e
   ·rename_i hc
    obtain ⟨hn,hmax⟩:=hc
    simp only [Option.some.injEq,Prod.mk.injEq] at e
    obtain ⟨rfl,rfl⟩:=e
    obtain ⟨flat,hf1,hf2,hf3⟩:=ZbE hr he z parts.toList 0 rs hrs
    have main:∀ zero:Array Value,∃ us:Array Value,Instr.fill (fun i=>some (i*z,z)) ((Array.range (n*z)).map (zero[· % zero.size]!)) (parts.toList.map fun p=>(p.1,ρ p.2))=some us∧us=flat.toArray:=by
     intro zero
     obtain ⟨us,h1,h2⟩:=hf3 ((Array.range (n*z)).map (zero[· % zero.size]!)) (by simp [hn])
     refine ⟨us,h1,?_⟩
     apply Array.ext'
     rw [h2]
     simp [hn]
    have hgt:¬n*z > 2 ^ 24:=by omega
    have ex:=Ext.push hr (.rows z rs false) (some (.cells flat.toArray u))
    have hsz:flat.toArray.size=n*z:=by simp [hf1,hn]
    have hheap:(w.alloc (.cells flat.toArray u)).heap[w.heap.size]? = some (.cells flat.toArray u (0,0)):=YH _
    refine ⟨.slice (some ⟨w.heap.size,0,none⟩) n n,_,w.alloc (.cells flat.toArray u),?_,Rel.push hr (.rows z rs false) (some (.cells flat.toArray u)) ?_,ex,?_⟩
    ·by_cases h0:n*z=0
     ·obtain ⟨us,h1,rfl⟩:=main #[]
      simp only [Instr.buildSlice,Sem.run_bind,run_underlying hu,Result.andThen_ok,sizeOf,typeInfo,run_program,hi,Sem.run_pure,hz,if_neg hgt,if_pos h0,Array.toList_map]
      rw [h1]
      rfl
     ·obtain ⟨us,h1,rfl⟩:=main y.cells
      have hzv:(zeroValue u).run P w=.ok y w:=by simp [zeroValue,typeInfo,hi,hy]
      simp only [Instr.buildSlice,Sem.run_bind,run_underlying hu,Result.andThen_ok,sizeOf,typeInfo,run_program,hi,Sem.run_pure,hz,if_neg hgt,if_neg h0,hzv,Array.toList_map]
      rw [h1]
      rfl
    ·exact .inr ⟨w.heap.size,flat.toArray,u,Zv _ _,.free hheap,by rw [hsz,hn];exact Nat.le_refl _,hf2.ext ex⟩
    ·exact ⟨z,rs,false,_,n,by simp,by omega,rfl,fun _=>⟨Nat.le_refl _,fun h00=>h00,.inr ⟨w.heap.size,flat.toArray,u,rfl,Zv _ _,⟨_,hheap⟩,by rw [hsz];exact Nat.le_refl _⟩⟩⟩
   ·simp at e
  ·simp at e
 ·simp at e
theorem Zjs {t:TypeId} {n:Nat} {parts:Array (Nat×Operand)} {ev:Operand→AV} {h':Zd} (hr:Rel μ h w) (he:XB μ h w ev a.eval) (ho:o.op=.buildSlice t n parts) (e:Jv h ev n parts.toList (es P t)=some (x,h')):Wa P o a μ h w x h':=by
 refine JL ?_ (Zh1 (P:=P) (t:=t) hr he e)
 simp only [execOp,ho,Sem.run_bind]
 rfl
mutual
theorem Zlx (hr:Rel μ h w):∀ (a a':AV) (v:Value),Ys h a=some a'→Rep μ h w a v→Rep μ h w a' v
 | .own l n,a',v,e,r=>by
  simp only [Ys] at e
  split at e
  ·rename_i z rs wr hl
   split at e
   ·simp only [Option.some.injEq] at e
    subst e
    exact r
   ·rename_i hw
    split at e
    ·rename_i hn
     simp only [Option.some.injEq] at e
     subst e
     refine Rep.pure _ _ (Y9 hr (.own l n) (.rows rs) v ?_ r)
     have hw:wr=false∧ZL rs=[]:=by simpa using hw
     obtain ⟨rfl,hlz⟩:=hw
     simp [ZJ,hl,hn,hlz]
    ·simp at e
  ·simp at e
 | .nils,a',v,e,r=>by
  simp only [Ys,Option.some.injEq] at e
  subst e
  exact Rep.pure _ _ (Y9 hr .nils (.rows []) v (by simp [ZJ]) r)
 | .lit rs,a',v,e,r=>by
  simp only [Ys,Option.some.injEq] at e
  subst e
  exact Rep.pure _ _ (Y9 hr (.lit rs) (.rows rs) v (by simp [ZJ]) r)
 | .agg cs,a',v,e,r=>by
  simp only [Ys] at e
  split at e
  ·rename_i cs' hcs
   simp only [Option.some.injEq] at e
   subst e
   obtain ⟨vs,hv,r⟩:=r
   exact ⟨vs,hv,Qe hr cs cs' vs hcs r⟩
  ·simp at e
 | .optr _ _ _ _,_,_,e,r=>by simp only [Ys,Option.some.injEq] at e;subst e;exact r
 | .tup cs,_,_,e,r=>by simp only [Ys,Option.some.injEq] at e;subst e;exact r
 | .fn _ cs,_,_,e,r=>by simp only [Ys,Option.some.injEq] at e;subst e;exact r
 | .bnd _ cs,_,_,e,r=>by simp only [Ys,Option.some.injEq] at e;subst e;exact r
 | .iface _ a,_,_,e,r=>by simp only [Ys,Option.some.injEq] at e;subst e;exact r
 | .ptr _ _,_,_,e,r=>by simp only [Ys,Option.some.injEq] at e;subst e;exact r
 | .int _ _,_,_,e,r=>by simp only [Ys,Option.some.injEq] at e;subst e;exact r
 | .bool _,_,_,e,r=>by simp only [Ys,Option.some.injEq] at e;subst e;exact r
 | .str _,_,_,e,r=>by simp only [Ys,Option.some.injEq] at e;subst e;exact r
 | .nilp,_,_,e,r=>by simp only [Ys,Option.some.injEq] at e;subst e;exact r
 | .nilf,_,_,e,r=>by simp only [Ys,Option.some.injEq] at e;subst e;exact r
 | .nili,_,_,e,r=>by simp only [Ys,Option.some.injEq] at e;subst e;exact r
 | .emp _,_,_,e,r=>by simp only [Ys,Option.some.injEq] at e;subst e;exact r
 | .nilm,_,_,e,r=>by simp only [Ys,Option.some.injEq] at e;subst e;exact r
 | .rows _,_,_,e,r=>by simp only [Ys,Option.some.injEq] at e;subst e;exact r
 | .rptr _ _,_,_,e,r=>by simp only [Ys,Option.some.injEq] at e;subst e;exact r
 | .mp _,_,_,e,r=>by simp only [Ys,Option.some.injEq] at e;subst e;exact r
 | .tptr _ _ _,_,_,e,r=>by simp only [Ys,Option.some.injEq] at e;subst e;exact r
 | .town _ _ _,_,_,e,r=>by simp only [Ys,Option.some.injEq] at e;subst e;exact r
 | .any,_,_,e,r=>by simp only [Ys,Option.some.injEq] at e;subst e;exact r
theorem Qe (hr:Rel μ h w):∀ (l l':List AV) (vs:List Value),WC h l=some l'→RepL μ h w l vs→RepL μ h w l' vs
 | [],l',vs,e,r=>by simp only [WC,Option.some.injEq] at e;subst e;exact r
 | a::r,l',vs,e,x=>by
  simp only [WC] at e
  split at e
  ·rename_i a1 h1
   split at e
   ·rename_i r1 h2
    simp only [Option.some.injEq] at e
    subst e
    obtain ⟨v,vr,hv,x1,x2⟩:=x
    exact ⟨v,vr,hv,Zlx hr a a1 v h1 x1,Qe hr r r1 vr h2 x2⟩
   ·simp at e
  ·simp at e
end
theorem Z4 (σ:Nat→Nat):∀ (ls:List Nat) (bs h:Zd),(back σ ls bs h).length=h.length
 | [],bs,h=>by simp [back]
 | l::ls,[],h=>by simp [back]
 | l::ls,b::bs,h=>by simp only [back];rw [Z4 σ ls bs];simp
theorem W7 (σ:Nat→Nat):∀ (ls:List Nat) (bs h:Zd) (l:Nat),l∉ls→(back σ ls bs h)[l]? = h[l]?
 | [],bs,h,l,_=>by simp [back]
 | x::ls,[],h,l,_=>by simp [back]
 | x::ls,b::bs,h,l,hl=>by
  simp only [back]
  rw [W7 σ ls bs _ l (fun hx=>hl (List.mem_cons_of_mem _ hx)),List.getElem?_set_ne (fun e=>hl (by simp [e]))]
theorem Zck (σ:Nat→Nat):∀ (ls:List Nat) (bs h:Zd) (i l:Nat) (b:Blk),ls.Nodup→ls[i]? = some l→bs[i]? = some b→l < h.length→(back σ ls bs h)[l]? = some (Zap σ b)
 | [],bs,h,i,l,b,_,e,_,_=>by simp at e
 | x::ls,[],h,i,l,b,_,_,e,_=>by simp at e
 | x::ls,y::bs,h,0,l,b,hn,e,e',hl=>by
  simp only [List.getElem?_cons_zero,Option.some.injEq] at e e'
  subst e e'
  simp only [back]
  rw [W7 σ ls bs _ x (List.nodup_cons.1 hn).1,List.getElem?_set_self hl]
 | x::ls,y::bs,h,i+1,l,b,hn,e,e',hl=>by
  simp only [List.getElem?_cons_succ] at e e'
  simp only [back]
  exact Zck σ ls bs _ i l b (List.nodup_cons.1 hn).2 e e' (by simpa using hl)
theorem ZlB {hs h2:Zd} {ls:List Nat} (hp:IsPart h ls hs) (hlen:h2.length=ls.length):Joins h ls h2 (back (Y4 ls h.length) ls h2 h) where
 le:=by omega
 len:=by rw [Z4];omega
 old:=fun l _ hn=>W7 _ _ _ _ _ hn
 new:=fun i b hb=>by
  have hi:i < hs.length:=by rw [hp.len,←hlen];exact (List.getElem?_eq_some_iff.1 hb).1
  obtain ⟨l,e,hl⟩:=hp.nth hi
  rw [XX e]
  exact Zck _ _ _ _ _ _ _ hp.nodup e hb (hp.lt hl)
theorem ZkZ {hs h2:Zd} {ls:List Nat} {b:Blk} (hp:IsPart h ls hs) (hlen:h2.length=ls.length+1) (hb:h2[ls.length]? = some b) (hren:Zap (Y4 ls h.length) b=b):Joins h ls h2 (back (Y4 ls h.length) ls h2 h++[b]) where
 le:=by omega
 len:=by simp only [List.length_append,Z4,List.length_singleton];omega
 old:=fun l hl hn=>by rw [List.getElem?_append_left (by rw [Z4];exact hl)];exact W7 _ _ _ _ _ hn
 new:=fun i b' hb'=>by
  have hlt:=(List.getElem?_eq_some_iff.1 hb').1
  by_cases hi:i < ls.length
  ·obtain ⟨l,e,hl⟩:=hp.nth (by rw [hp.len];exact hi)
   rw [XX e,List.getElem?_append_left (by rw [Z4];exact hp.lt hl)]
   exact Zck _ _ _ _ _ _ _ hp.nodup e hb' (hp.lt hl)
  ·have hi2:i=ls.length:=by omega
   subst hi2
   rw [hb] at hb'
   simp only [Option.some.injEq] at hb'
   subst hb'
   rw [JR (Nat.le_refl _),List.getElem?_append_right (by rw [Z4];omega),Z4,hren]
   simp
theorem ZfW {hs h2:Zd} {ls:List Nat} (hp:IsPart h ls hs) (hle:ls.length≤h2.length):Joins h ls h2 (back (Y4 ls h.length) ls h2 h++(h2.drop ls.length).map (Zap (Y4 ls h.length))) where
 le:=hle
 len:=by simp only [List.length_append,Z4,List.length_map,List.length_drop]
 old:=fun l hl hn=>by rw [List.getElem?_append_left (by rw [Z4];exact hl)];exact W7 _ _ _ _ _ hn
 new:=fun i b' hb'=>by
  by_cases hi:i < ls.length
  ·obtain ⟨l,e,hl⟩:=hp.nth (by rw [hp.len];exact hi)
   rw [XX e,List.getElem?_append_left (by rw [Z4];exact hp.lt hl)]
   exact Zck _ _ _ _ _ _ _ hp.nodup e hb' (hp.lt hl)
  ·rw [JR (by omega),List.getElem?_append_right (by rw [Z4];omega),Z4,List.getElem?_map,List.getElem?_drop,show ls.length+(h.length+(i - ls.length) - h.length)=i by omega,hb']
   rfl
theorem joins_new (b:Blk) (hb:Xj b=[]):Joins h [] [b] (h++[b]) where
 le:=by simp
 len:=by simp
 old:=fun l hl _=>List.getElem?_append_left hl
 new:=fun i b' hb'=>by
  cases i with
  | zero =>
   simp only [List.getElem?_cons_zero,Option.some.injEq] at hb'
   subst hb'
   rw [JR (by simp)]
   have:Zap (Y4 [] h.length) b=b:=by
    cases b with
    | rows z rs wr =>
     show Blk.rows z (XK _ rs) wr=_
     rw [loclessR _ rs hb]
    | hole=>rfl
    | map _=>rfl
    | cells cs =>
     have:∀ l:List AV,Zk l=[]→XI (Y4 [] h.length) l=l:=locless_ren _
     simp only [Zap,this cs hb]
   simp [this]
  | succ i=>simp at hb'
where
 loclessR (σ:Nat→Nat):∀ rs:List (List AV),ZL rs=[]→XK σ rs=rs
  | [],_=>rfl
  | r::rs,h=>by
   have h:=List.append_eq_nil_iff.1 (show Zk r++ZL rs=[] from h)
   simp only [XK];rw [locless_ren σ r h.1,loclessR σ rs h.2]
 locless (σ:Nat→Nat):∀ a:AV,Zm a=[]→ren σ a=a
  | .agg cs,h=>by simp only [ren];rw [locless_ren σ cs h]
  | .tup cs,h=>by simp only [ren];rw [locless_ren σ cs h]
  | .fn _ cs,h=>by simp only [ren];rw [locless_ren σ cs h]
  | .bnd _ cs,h=>by simp only [ren];rw [locless_ren σ cs h]
  | .iface _ a,h=>by simp only [ren];rw [locless σ a h]
  | .ptr _ _,h=>by simp [Zm] at h
  | .own _ _,h=>by simp [Zm] at h
  | .optr _ _ _ _,h=>by simp [Zm] at h
  | .mp _,h=>by simp [Zm] at h
  | .tptr _ _ _,h=>by simp [Zm] at h
  | .town _ _ _,h=>by simp [Zm] at h
  | .int _ _,_=>rfl
  | .bool _,_=>rfl
  | .str _,_=>rfl
  | .nilp,_=>rfl
  | .nilf,_=>rfl
  | .nili,_=>rfl
  | .emp _,_=>rfl
  | .nilm,_=>rfl
  | .nils,_=>rfl
  | .rows _,_=>rfl
  | .lit _,_=>rfl
  | .rptr _ _,_=>rfl
  | .any,_=>rfl
 locless_ren (σ:Nat→Nat):∀ l:List AV,Zk l=[]→XI σ l=l
  | [],_=>rfl
  | a::r,h=>by
   simp only [Zk,List.append_eq_nil_iff] at h
   simp only [XI]
   rw [locless σ a h.1,locless_ren σ r h.2]
theorem part_nil:IsPart h [] [] where
 nodup:=by simp
 len:=rfl
 there:=fun i l e=>by simp at e
 closed:=fun l hl=>by simp [ZP] at hl
theorem Zdg {F:Tk→Res} (hF:X5 Bs P F) {g:FuncId} {all:List Value} {args:List AV} {ls:List Nat} {hs h2 h3:Zd} {r:AV} (hr:Rel μ h w)
  (hent:Go.Proofs.Enters P g→(execOp a.eval o).run P w=.ok (.enter g all.toArray) w) (hp:IsPart h ls hs) (ha:RepL (WF μ h ls) hs w args all)
  (e:F (.call g args hs)=some (r,h2)) (hj:Joins h ls h2 h3):Wa P o a μ h w (ren (Y4 ls h.length) r) h3:=by
 obtain ⟨hen,hcl⟩:=hF _ _ _ _ _ e
 exact J2 (hent hen) hcl (hp.rel hr) ha fun v μ2 w' q2 q3 q4=>⟨_,hj.rel hp hr q2 q3,hj.ext hp q3,hj.rep hp q3.out q4⟩
theorem ZcR {F:Tk→Res} (hF:X5 Bs P F) {nl:Bool} {g:FuncId} {all:List AV} {vall:List Value} {h':Zd} (hr:Rel μ h w) (hall:RepL μ h w all vall)
  (hent:Go.Proofs.Enters P g→(execOp a.eval o).run P w=.ok (.enter g vall.toArray) w) (e:XQ F g h all (Zdy nl h all)=some (x,h')):Wa P o a μ h w x h':=by
 unfold XQ at e
 split at e
 ·rename_i pure hp
  unfold X4 at e
  split at e
  ·rename_i r hFr
   simp only [Option.some.injEq,Prod.mk.injEq] at e
   obtain ⟨rfl,rfl⟩:=e
   obtain ⟨hen,hcl⟩:=hF _ _ _ _ _ hFr
   exact J2 (hent hen) hcl hr.empty (Zoj hr hp hall) fun v μ2 w' h2 h3 h4 =>
    ⟨μ,hr.from_empty h3,h3.from_empty.1,Rep.from_empty h3 h4⟩
  ·rename_i n b hFr
   split at e
   rotate_left
   ·simp at e
   rename_i hb
   simp only [Option.some.injEq,Prod.mk.injEq] at e
   obtain ⟨rfl,rfl⟩:=e
   obtain ⟨hen,hcl⟩:=hF _ _ _ _ _ hFr
   refine J2 (hent hen) hcl (part_nil.rel hr) (RepL.pure _ _ (PRepL.keep (fun b o v hc hm=>⟨hc,fun hx=>hm (part_nil.mut.1 hx)⟩) _ _ (ZbX hr hp hall)))
    fun v μ2 w' q2 q3 q4=>?_
   exact ⟨_,(joins_new b hb).rel part_nil hr q2 q3,(joins_new b hb).ext part_nil q3,(joins_new b hb).rep part_nil q3.out q4⟩
  ·rename_i r b0 hs0 _ hFr
   simp only [Yt,Option.some.injEq,Prod.mk.injEq] at e
   obtain ⟨rfl,rfl⟩:=e
   obtain ⟨hen,hcl⟩:=hF _ _ _ _ _ hFr
   refine J2 (hent hen) hcl (part_nil.rel hr) (RepL.pure _ _ (PRepL.keep (fun b o v hc hm=>⟨hc,fun hx=>hm (part_nil.mut.1 hx)⟩) _ _ (ZbX hr hp hall)))
    fun v μ2 w' q2 q3 q4=>?_
   have hj:=ZfW (h2:=b0::hs0) (part_nil (h:=h)) (Nat.zero_le _)
   exact ⟨_,hj.rel part_nil hr q2 q3,hj.ext part_nil q3,hj.rep part_nil q3.out q4⟩
  ·simp at e
 ·split at e
  ·rename_i args hca
   unfold Jy at e
   split at e
   ·rename_i hu
    split at e
    ·rename_i hs hsub
     split at e
     ·rename_i hcl
      unfold QA at e
      split at e
      ·rename_i r h2 hFr
       split at e
       ·rename_i hlen
        simp only [Option.some.injEq,Prod.mk.injEq] at e
        obtain ⟨rfl,rfl⟩:=e
        obtain ⟨h1,h4⟩:=Zdk h _ _ _ hsub
        have hp:IsPart h (YO h 100 (Zk args) []) hs:=⟨Xs _ _ _ _ (by simp),h1,h4,Yo hcl⟩
        refine Zdg hF hr hent hp (hp.rep (fun i hi=>(XO _ _).1 (Yo hu _ (List.mem_map_of_mem hi))) (Qe hr _ _ _ hca hall)) hFr (ZlB hp hlen)
       ·have many:(YO h 100 (Zk args) []).length≤h2.length→Yt h (YO h 100 (Zk args) []) r h2=some (x,h')→Wa P o a μ h w x h':=fun hle e=>by
         simp only [Yt,Option.some.injEq,Prod.mk.injEq] at e
         obtain ⟨rfl,rfl⟩:=e
         obtain ⟨h1,h4⟩:=Zdk h _ _ _ hsub
         have hp:IsPart h (YO h 100 (Zk args) []) hs:=⟨Xs _ _ _ _ (by simp),h1,h4,Yo hcl⟩
         exact Zdg hF hr hent hp (hp.rep (fun i hi=>(XO _ _).1 (Yo hu _ (List.mem_map_of_mem hi))) (Qe hr _ _ _ hca hall)) hFr (ZfW hp hle)
        split at e
        ·rename_i hlen
         split at e
         ·rename_i z rs wr hb
          split at e
          rotate_left
          ·exact many (by omega) e
          rename_i hlz
          simp only [Option.some.injEq,Prod.mk.injEq] at e
          obtain ⟨rfl,rfl⟩:=e
          obtain ⟨h1,h4⟩:=Zdk h _ _ _ hsub
          have hp:IsPart h (YO h 100 (Zk args) []) hs:=⟨Xs _ _ _ _ (by simp),h1,h4,Yo hcl⟩
          refine Zdg hF hr hent hp (hp.rep (fun i hi=>(XO _ _).1 (Yo hu _ (List.mem_map_of_mem hi))) (Qe hr _ _ _ hca hall)) hFr (ZkZ hp hlen hb (by show Blk.rows z (XK _ rs) wr=_;rw [joins_new.loclessR _ rs hlz]))
         ·exact many (by omega) e
        ·split at e
         ·rename_i hle
          exact many hle e
         ·simp at e
      ·simp at e
     ·simp at e
    ·simp at e
   ·simp at e
  ·simp at e
theorem Ziw {nl:FuncId→Bool} {F:Tk→Res} (hF:X5 Bs P F) {c:Call} {f:Operand} {ev:Operand→AV} {h':Zd} (hr:Rel μ h w) (he:XB μ h w ev a.eval) (ho:o.op=.call c) (hc:c.callee=.value f)
  (e:Yv nl F h (evs ev c.args.toList) (ev f)=some (x,h')):Wa P o a μ h w x h':=by
 unfold Yv at e
 split at e
 ·rename_i g caps hg
  obtain ⟨vs,hf,hcaps⟩:=Zmo he hg
  exact ZcR hF hr ((Jf he c.args.toList).append hcaps) (fun hen=>Zly ho hc hf hen) e
 ·rename_i g fs hg
  obtain ⟨vs,hf,hfs⟩:=Zq1 he hg
  exact ZcR hF hr (hfs.append (Jf he c.args.toList)) (fun hen=>Zi1 ho hc hf hen) e
 ·simp at e
theorem ZdN {C:Cfg} {F:Tk→Res} (hF:X5 Bs C.P F) {ev:Operand→AV} {h':Zd} (hr:Rel μ h w) (he:XB μ h w ev a.eval) (e:Z0 C F ev h o.op=some (x,h')):Wa C.P o a μ h w x h':=by
 have quiet:val h (ZH C F ev h o.op)=some (x,h')→Wa C.P o a μ h w x h':=fun e=>by
  cases hd:ZH C F ev h o.op with
  | none=>simp [hd,val] at e
  | some v =>
   simp only [hd,val,Option.some.injEq,Prod.mk.injEq] at e
   obtain ⟨rfl,rfl⟩:=e
   exact ZaW hF hr he hd
 cases ho:o.op with
 | alloc t =>
  simp only [Z0,ho] at e
  exact Zj0 hr ho e
 | box t y =>
  simp only [Z0,ho] at e
  exact Zqc hr he ho e
 | store t y z =>
  simp only [Z0,ho] at e
  cases hs:Zdd C.P t (ev y) (ev z) h with
  | none=>simp [hs,WO] at e
  | some h1 =>
   simp only [hs,WO,Option.some.injEq,Prod.mk.injEq] at e
   obtain ⟨rfl,rfl⟩:=e
   exact ZkN hr he ho hs
 | makeSlice t n m =>
  simp only [Z0,ho] at e
  exact ZeQ hr he ho e
 | buildSlice t n parts =>
  simp only [Z0,ho] at e
  cases hd:ZH C F ev h (.buildSlice t n parts) with
  | some v =>
   simp only [hd,Jl,Option.some.injEq,Prod.mk.injEq] at e
   obtain ⟨rfl,rfl⟩:=e
   exact ZaW hF hr he (by rw [ho];exact hd)
  | none =>
   simp only [hd,Jl] at e
   exact Zjs hr he ho e
 | makeMap t r =>
  cases r with
  | none =>
   simp only [Z0,ho,Option.some.injEq,Prod.mk.injEq] at e
   obtain ⟨rfl,rfl⟩:=e
   exact Zhp hr ho
  | some _=>simp [Z0,ho,ZH,val] at e
 | mapUpdate t m k y =>
  simp only [Z0,ho] at e
  cases hs:Q2 C.P t h (ev m) (ev k) (ev y) with
  | none=>simp [hs,WO] at e
  | some h1 =>
   simp only [hs,WO,Option.some.injEq,Prod.mk.injEq] at e
   obtain ⟨rfl,rfl⟩:=e
   exact ZdR hr he (.inl ho) hs
 | insert t m k y =>
  simp only [Z0,ho] at e
  cases hs:Ju C.P t h (ev m) (ev k) (ev y) with
  | none=>simp [hs,WO] at e
  | some h1 =>
   simp only [hs,WO,Option.some.injEq,Prod.mk.injEq] at e
   obtain ⟨rfl,rfl⟩:=e
   exact ZdR hr he (.inr ho) (Zag hs).2
 | call c =>
  simp only [Z0,ho,Zaa] at e
  split at e
  ·rename_i f hc
   exact Ziw hF hr he ho hc e
  ·rename_i hc
   exact ZjH hr he ho hc e
  ·rename_i b hne hc
   refine quiet ?_
   simp only [ho,ZH,QC,hc]
   exact e
  ·simp at e
 | _ =>
  refine quiet ?_
  simpa only [Z0,ho] using e
end
section
variable {Bs:World→Prop}
variable {P:Program} {μ μ':Mp Bs} {h h':Zd} {w w':World}
def OpsFit (n:Nat) (ops:Array Oper):Prop:=∀ (i:Nat) (o:Oper),ops[i]? = some o→∀ d,o.dst=some d→d < n
theorem Xv (a:Act) (d:Option Nat) (v:Value):(a.put d v).tmps.size=a.tmps.size:=by
 cases d<;>simp [Act.put]
theorem Q7 (a:Act) (d:Option Nat) (v:Value):(a.put d v).defers=a.defers:=by
 cases d<;>rfl
theorem FrRel.ext (e:Ext μ h w μ' h' w') {fr:Fr} {t:Array Value} (r:FrRel μ h w fr t):FrRel μ' h' w' fr t:=fun i=>Rep.ext e _ _ (r i)
theorem FrRel.put {fr:Fr} {a:Act} {d:Option Nat} {x:AV} {v:Value} (r:FrRel μ h w fr a.tmps) (hd:∀ i,d=some i→i < a.tmps.size) (hx:Rep μ h w x v):FrRel μ h w (Go.Ab.put fr d x) (a.put d v).tmps:=by
 cases d with
 | none=>exact r
 | some i =>
  intro j
  have hi:=hd i rfl
  by_cases hij:i=j
  ·subst hij
   simp only [Go.Ab.put,get,if_true,Act.put]
   simpa [Array.getD,hi] using hx
  ·simp only [Go.Ab.put,get,if_neg hij,Act.put]
   have:(a.tmps.setIfInBounds i v).getD j undef=a.tmps.getD j undef:=by
    simp only [Array.getD_eq_getD_getElem?]
    rw [Array.getElem?_setIfInBounds_ne hij]
   rw [this]
   exact r j
theorem ZgC:Rep μ h w (.tup []) undef:=⟨[],rfl,rfl⟩
theorem Zhv {ops:Array Oper} {t:Array Value} {fr:Fr} {j:Nat} {b:Bool} (r:FrRel μ h w fr t) (e:ZbL fr (XH ops.toList j)=.bool b):yielded ops t j=some b:=by
 unfold yielded
 unfold XH at e
 simp only [Array.getElem?_toList] at e
 cases ho:ops[j]? with
 | none=>simp [ho,ZbL] at e
 | some o =>
  simp only [ho] at e
  cases hd:o.dst with
  | none=>simp [hd,ZbL] at e
  | some d =>
   simp only [hd,ZbL] at e
   have h1:=r d
   rw [e] at h1
   have h2:t.getD d undef=.bool b:=h1
   rw [Array.getD_eq_getD_getElem?] at h2
   cases hv:t[d]? with
   | none=>simp [hv,undef] at h2
   | some v =>
    simp only [hv,Option.getD_some] at h2
    subst h2
    simp [hd,hv]
theorem Zim {ops:Array Oper} {t:Array Value} {fr:Fr} {j:Nat} (r:FrRel μ h w fr t) (e:ZbL fr (XH ops.toList j)=.tup []):yielded ops t j=none:=by
 unfold yielded
 unfold XH at e
 simp only [Array.getElem?_toList] at e
 cases ho:ops[j]? with
 | none=>simp
 | some o =>
  simp only [ho] at e
  cases hd:o.dst with
  | none=>simp [hd]
  | some d =>
   simp only [hd,ZbL] at e
   have h1:=r d
   rw [e] at h1
   obtain ⟨vs,h2,h3⟩:=h1
   have h3':vs=[]:=h3
   subst h3'
   rw [Array.getD_eq_getD_getElem?] at h2
   cases hv:t[d]? with
   | none=>simp [hd,hv]
   | some v =>
    simp only [hv,Option.getD_some] at h2
    subst h2
    simp [hd,hv]
def Zwd (μ:Mp Bs) (h:Zd) (w:World) (a:Act) (fr':Fr) (h':Zd) (Q:Exit→Act→World→Prop):Prop :=
 ∀ a' μ' w',Rel μ' h' w'→Ext μ h w μ' h' w'→FrRel μ' h' w' fr' a'.tmps→a'.tmps.size=a.tmps.size→a'.defers=a.defers→Q .normal a' w'
theorem Zk0 {n m:Nat} (h:n < m):List.range' n (m - n)=n::List.range' (n+1) (m - (n+1)):=by
 have:m - n=(m - (n+1))+1:=by omega
 rw [this,List.range'_succ]
theorem ZbW {C:Cfg} {F:Tk→Res} (hF:X5 Bs C.P F) {ops:Array Oper} {Q:Exit→Act→World→Prop}:∀ (rest:List Oper) (n:Nat) (fr fr':Fr) (h h':Zd) (a:Act) (μ:Mp Bs) (w:World),
  ops.toList.drop n=rest→OpsFit a.tmps.size ops→Rel μ h w→FrRel μ h w fr a.tmps→Qw C F ops.toList rest fr h=some (fr',h')→Zwd μ h w a fr' h' Q→wpOps C.P ops Q (List.range' n (ops.size - n)) a w
 | [],n,fr,fr',h,h',a,μ,w,hd,_,hr,hf,e,hQ=>by
  have hn:ops.size≤n:=by
   have:=congrArg List.length hd
   simp at this
   omega
  have:ops.size - n=0:=by omega
  rw [this]
  simp only [List.range'_zero,wpOps]
  simp only [Qw,Option.some.injEq,Prod.mk.injEq] at e
  obtain ⟨rfl,rfl⟩:=e
  exact hQ a μ w hr (Ext.refl _ _ _) hf rfl rfl
 | o::rest,n,fr,fr',h,h',a,μ,w,hd,hfit,hr,hf,e,hQ=>by
  have hlt:n < ops.size:=by
   have:=congrArg List.length hd
   simp at this
   omega
  have ho:ops[n]? = some o:=by
   have:=congrArg (fun l=>l[0]?) hd
   simp only [List.getElem?_drop,Nat.add_zero,List.getElem?_cons_zero,Array.getElem?_toList] at this
   exact this
  have hd':ops.toList.drop (n+1)=rest:=by
   have:=congrArg List.tail hd
   simpa [List.tail_drop] using this
  have fit:∀ i,o.dst=some i→i < a.tmps.size:=hfit n o ho
  rw [Zk0 hlt]
  simp only [wpOps,ho]
  have run:∀ {v:AV} {h1:Zd},Z0 C F (ev fr) h o.op=some (v,h1)→Qw C F ops.toList rest (Go.Ab.put fr o.dst v) h1=some (fr',h')→o.wp C.P a w (wpOps C.P ops Q (List.range' (n+1) (ops.size - (n+1)))) Q:=by
   intro v h1 hs hn
   refine ZdN hF hr (ZqX hf) hs _ _ ?_
   intro u μ' w' h2 h3 h4
   refine ZbW hF rest (n+1) _ fr' h1 h' (a.put o.dst u) μ' w' hd' (by rw [Xv];exact hfit) h2 ((hf.ext h3).put fit h4) hn ?_
   intro a' μ2 w2 q1 q2 q3 q4 q5
   exact hQ a' μ2 w2 q1 (h3.trans q2) q3 (by rw [q4,Xv]) (by rw [q5,Q7])
  have skip:Qw C F ops.toList rest (Go.Ab.put fr o.dst (.tup [])) h=some (fr',h')→wpOps C.P ops Q (List.range' (n+1) (ops.size - (n+1))) (a.put o.dst undef) w:=by
   intro hn
   refine ZbW hF rest (n+1) _ fr' h h' (a.put o.dst undef) μ w hd' (by rw [Xv];exact hfit) hr (hf.put fit ZgC) hn ?_
   intro a' μ2 w2 q1 q2 q3 q4 q5
   exact hQ a' μ2 w2 q1 q2 q3 (by rw [q4,Xv]) (by rw [q5,Q7])
  simp only [Qw] at e
  split at e
  ·rename_i hg
   have hw:Region.wanted o (yielded ops a.tmps)=true:=by simp [Region.wanted,hg]
   simp only [hw,if_true]
   split at e
   ·rename_i v h1 hs
    exact .inl (run hs e)
   ·simp at e
  ·rename_i j want hg
   split at e
   ·rename_i b hb
    have hy:=Zhv hf hb
    split at e
    ·rename_i hbw
     subst hbw
     have hw:Region.wanted o (yielded ops a.tmps)=true:=by simp [Region.wanted,hg,hy]
     simp only [hw,if_true]
     split at e
     ·rename_i v h1 hs
      exact .inl (run hs e)
     ·simp at e
    ·rename_i hbw
     have hw:Region.wanted o (yielded ops a.tmps)=false:=by simp [Region.wanted,hg,hy,hbw]
     simp only [hw,Bool.false_eq_true,if_false]
     exact skip e
   ·rename_i hb
    have hy:=Zim hf hb
    have hw:Region.wanted o (yielded ops a.tmps)=false:=by simp [Region.wanted,hg,hy]
    simp only [hw,Bool.false_eq_true,if_false]
    exact skip e
   ·simp at e
end
section
variable {Bs:World→Prop}
def W0:Op→List Operand
 | .load _ x=>[x]
 | .slice _ x _ _ _=>[x]
 | .indexAddr _ x _=>[x]
 | .lookup _ x _ _=>[x]
 | .buildSlice _ _ ps=>ps.toList.map (·.2)
 | .insert _ _ _ v=>[v]
 | .binOp _ _ x y _=>bif Zrq y then [x] else []
 | .call c=>match c.callee with
  | .value f=>f::c.args.toList
  | _=>[]
 | _=>[]
theorem ZiS {b:Bool} {t:TypeId} {r:Option (AV×Zd)} {x:AV} {h':Zd} (e:Zc1 b t r=some (x,h')):∃ x0,r=some (x0,h'):=by
 cases b with
 | false=>exact ⟨x,e⟩
 | true =>
  simp only [Zc1,cond_true] at e
  unfold tyP at e
  split at e
  ·simp only [Option.some.injEq,Prod.mk.injEq] at e
   obtain ⟨_,rfl⟩:=e
   exact ⟨_,rfl⟩
  ·simp at e
theorem ZkK {h:Zd} {v:Option AV} {x:AV} {h':Zd} (e:Go.Ab.alloc h v=some (x,h')):∃ b,h'=h++[b]:=by
 unfold Go.Ab.alloc at e
 split at e
 ·split at e
  ·simp only [Option.some.injEq,Prod.mk.injEq] at e
   exact ⟨_,e.2.symm⟩
  ·simp at e
 ·simp at e
theorem Zb6 {el:Option TypeId} {wq:Bool} {h:Zd} {z b:Nat} {ys:List (List AV)} {xs x:AV} {h':Zd} (e:Wf el wq h z b ys xs=some (x,h')):∃ xs' x',YQ wq h z b xs' ys=some (x',h')∧Zm xs'=Zm xs:=by
 unfold Wf at e
 split at e
 ·rename_i t l n
  split at e
  ·refine ⟨.own l n,?_⟩
   unfold tyO at e
   split at e
   ·rename_i l' n' h'' ha
    simp only [Option.some.injEq,Prod.mk.injEq] at e
    obtain ⟨_,rfl⟩:=e
    exact ⟨_,ha,rfl⟩
   ·simp at e
  ·simp at e
 ·exact ⟨xs,x,e,rfl⟩
end
section
variable {Bs:World→Prop}
variable {P:Program} {h h':Zd}
mutual
theorem Qs:∀ a:AV,(∀ l,l∈Zm a→h[l]? = h'[l]?)→ZJ h a=ZJ h' a
 | .own l n,e=>by simp only [ZJ];rw [e l (by simp [Zm])]
 | .agg cs,e=>by simp only [ZJ];rw [YU cs e]
 | .tup cs,e=>by simp only [ZJ];rw [YU cs e]
 | .fn _ cs,e=>by simp only [ZJ];rw [YU cs e]
 | .bnd _ cs,e=>by simp only [ZJ];rw [YU cs e]
 | .iface _ a,e=>by simp only [ZJ];rw [Qs a e]
 | .ptr _ _,_=>rfl
 | .optr _ _ _ _,_=>rfl
 | .mp _,_=>rfl
 | .tptr _ _ _,_=>rfl
 | .town _ _ _,_=>rfl
 | .nils,_=>rfl
 | .lit _,_=>rfl
 | .int _ _,_=>rfl
 | .bool _,_=>rfl
 | .str _,_=>rfl
 | .nilp,_=>rfl
 | .nilf,_=>rfl
 | .nili,_=>rfl
 | .emp _,_=>rfl
 | .nilm,_=>rfl
 | .rows _,_=>rfl
 | .rptr _ _,_=>rfl
 | .any,_=>rfl
theorem YU:∀ l:List AV,(∀ i,i∈Zk l→h[i]? = h'[i]?)→Yk h l=Yk h' l
 | [],_=>rfl
 | a::r,e=>by
  simp only [Yk]
  rw [Qs a (fun l hl=>e l (by simp [Zk,hl])),YU r (fun l hl=>e l (by simp [Zk,hl]))]
end
mutual
theorem Jq:∀ a:AV,(∀ l,l∈Zm a→h[l]? = h'[l]?)→ZS h a=ZS h' a
 | .own l n,e=>by simp only [ZS];rw [e l (by simp [Zm])]
 | .agg cs,e=>by simp only [ZS];rw [Xo cs e]
 | .tup cs,e=>by simp only [ZS];rw [Xo cs e]
 | .fn _ cs,e=>by simp only [ZS];rw [Xo cs e]
 | .bnd _ cs,e=>by simp only [ZS];rw [Xo cs e]
 | .iface _ a,e=>by simp only [ZS];rw [Jq a e]
 | .ptr _ _,_=>rfl
 | .optr _ _ _ _,_=>rfl
 | .mp _,_=>rfl
 | .tptr _ _ _,_=>rfl
 | .town _ _ _,_=>rfl
 | .nils,_=>rfl
 | .lit _,_=>rfl
 | .int _ _,_=>rfl
 | .bool _,_=>rfl
 | .str _,_=>rfl
 | .nilp,_=>rfl
 | .nilf,_=>rfl
 | .nili,_=>rfl
 | .emp _,_=>rfl
 | .nilm,_=>rfl
 | .rows _,_=>rfl
 | .rptr _ _,_=>rfl
 | .any,_=>rfl
theorem Xo:∀ l:List AV,(∀ i,i∈Zk l→h[i]? = h'[i]?)→YN h l=YN h' l
 | [],_=>rfl
 | a::r,e=>by
  simp only [YN]
  rw [Jq a (fun l hl=>e l (by simp [Zk,hl])),Xo r (fun l hl=>e l (by simp [Zk,hl]))]
end
theorem ZnS {kn:Bool} {a:AV} (e:∀ l,l∈Zm a→h[l]? = h'[l]?):pur kn h a=pur kn h' a:=by
 cases kn with
 | true=>exact Jq a e
 | false=>exact Qs a e
theorem Zfh {nl:Bool} {a:List AV} (e:∀ l,l∈Zk a→h[l]? = h'[l]?):Zdy nl h a=Zdy nl h' a:=by
 cases nl with
 | true=>exact Xo a e
 | false=>exact YU a e
theorem ZjQ {t:TypeId} {a:AV} (e:∀ l,l∈Zm a→h[l]? = h'[l]?):Zee P t a h=Zee P t a h':=by
 cases a<;>simp only [Zee]
 ·rw [e _ (by simp [Zm])]
 ·rw [e _ (by simp [Zm])]
theorem Zhs {lo hi:Option AV} {x:AV} {k:TK} (e:∀ l,l∈Zm x→h[l]? = h'[l]?):Zac h lo hi x k=Zac h' lo hi x k:=by
 cases k<;>simp only [Zac]
 cases x<;>simp only [Zfj]
 rw [e _ (by simp [Zm])]
theorem Zie {t:TypeId} {i x:AV} (e:∀ l,l∈Zm x→h[l]? = h'[l]?):Zb2 P t h i x=Zb2 P t h' i x:=by
 cases i<;>simp only [Zb2]
 cases x<;>simp only
 rw [e _ (by simp [Zm])]
theorem Zer {x:AV} (e:∀ l,l∈Zm x→h[l]? = h'[l]?):Wo h x=Wo h' x:=by
 cases x<;>simp only [Wo]
 rw [e _ (by simp [Zm])]
theorem Zj8 {op:BinOp} {t:TypeId} {x y:AV} (e:∀ l,l∈Zm x→h[l]? = h'[l]?):ZeX P op t h x y=ZeX P op t h' x y:=by
 cases y<;>simp only [ZeX]
 cases x<;>simp only [Zf2]
 rw [e _ (by simp [Zm])]
theorem Zcn {kn:Bool} {ev:Operand→AV} {z:Nat}:∀ (ps:List (Nat×Operand)) (i:Nat),(∀ p,p∈ps→∀ l,l∈Zm (ev p.2)→h[l]? = h'[l]?)→WZ kn h ev z i ps=WZ kn h' ev z i ps
 | [],_,_=>rfl
 | (j,x)::r,i,e=>by
  simp only [WZ]
  rw [ZnS (e (j,x) (by simp)),Zcn r (i+1) (fun p hp=>e p (by simp [hp]))]
theorem ZdG (ev:Operand→AV):∀ (xs:List Operand) (l:Nat),l∈Zk (evs ev xs)→∃ x,x∈xs∧l∈Zm (ev x)
 | [],l,hl=>by simp [evs,Zk] at hl
 | x::xs,l,hl=>by
  simp only [evs,Zk,List.mem_append] at hl
  rcases hl with hl | hl
  ·exact ⟨x,by simp,hl⟩
  ·obtain ⟨y,h1,h2⟩:=ZdG ev xs l hl
   exact ⟨y,by simp [h1],h2⟩
theorem WE (a b:List AV) (l:Nat):l∈Zk (a++b)↔l∈Zk a∨l∈Zk b:=by
 induction a with
 | nil=>simp [Zk]
 | cons x r ih=>simp [Zk,ih,or_assoc]
theorem ZiF {C:Cfg} {F:Tk→Res} {ev:Operand→AV} (o:Op) (e:∀ x,x∈W0 o→∀ l,l∈Zm (ev x)→h[l]? = h'[l]?):ZH C F ev h o=ZH C F ev h' o:=by
 cases o with
 | load t a=>simp only [ZH];exact ZjQ (e a (by simp [W0]))
 | slice t x lo hi mx =>
  cases mx with
  | none=>simp only [ZH];exact Zhs (e x (by simp [W0]))
  | some _=>rfl
 | indexAddr t x i=>simp only [ZH];exact Zie (e x (by simp [W0]))
 | binOp op t x y u =>
  simp only [ZH,ZgA]
  cases hn:Zrq y with
  | false=>rfl
  | true =>
   simp only [cond_true]
   rw [Zj8 (e x (by simp [W0,hn]))]
 | lookup t x i ok=>simp only [ZH,Zci];rw [Zer (h:=h) (h':=h') (e x (by simp [W0]))]
 | buildSlice t n ps =>
  simp only [ZH]
  split
  ·rw [Zcn ps.toList 0 fun p hp=>e p.2 (by simp only [W0,List.mem_map];exact ⟨p,hp,rfl⟩)]
  ·rfl
 | call c =>
  simp only [ZH,QC]
  split
  ·rename_i f hc
   unfold Zaj
   split
   ·rename_i g caps hg
    rw [YU (h:=h) (h':=h')]
    intro l hl
    rw [WE] at hl
    rcases hl with hl | hl
    ·obtain ⟨x,h1,h2⟩:=ZdG ev _ _ hl
     exact e x (by simp only [W0,hc];exact List.mem_cons_of_mem _ h1) l h2
    ·exact e f (by simp [W0,hc]) l (by rw [hg];exact hl)
   ·rfl
  ·rfl
  ·rfl
 | makeFunc f first captured=>cases f<;>rfl
 | _=>rfl
mutual
theorem ZcU:∀ (a a':AV),ZJ h a=some a'→∃ b,ZS h a=some b
 | .own l n,a',e=>⟨a',by simpa only [ZJ,ZS] using e⟩
 | .agg cs,a',e=>by
  simp only [ZJ] at e
  split at e
  ·rename_i cs' hcs
   obtain ⟨b,hb⟩:=XF cs cs' hcs
   exact ⟨.agg b,by simp [ZS,hb]⟩
  ·simp at e
 | .tup cs,a',e=>by
  simp only [ZJ] at e
  split at e
  ·rename_i cs' hcs
   obtain ⟨b,hb⟩:=XF cs cs' hcs
   exact ⟨.tup b,by simp [ZS,hb]⟩
  ·simp at e
 | .fn f cs,a',e=>by
  simp only [ZJ] at e
  split at e
  ·rename_i cs' hcs
   obtain ⟨b,hb⟩:=XF cs cs' hcs
   exact ⟨.fn f b,by simp [ZS,hb]⟩
  ·simp at e
 | .bnd f cs,a',e=>by
  simp only [ZJ] at e
  split at e
  ·rename_i cs' hcs
   obtain ⟨b,hb⟩:=XF cs cs' hcs
   exact ⟨.bnd f b,by simp [ZS,hb]⟩
  ·simp at e
 | .iface t a,a',e=>by
  simp only [ZJ] at e
  split at e
  ·rename_i a2 ha
   obtain ⟨b,hb⟩:=ZcU a a2 ha
   exact ⟨.iface t b,by simp [ZS,hb]⟩
  ·simp at e
 | .ptr _ _,_,e=>by simp [ZJ] at e
 | .optr _ _ _ _,_,e=>by simp [ZJ] at e
 | .mp _,_,e=>by simp [ZJ] at e
 | .tptr _ _ _,_,e=>by simp [ZJ] at e
 | .town _ _ _,_,e=>by simp [ZJ] at e
 | .nils,_,_=>⟨_,rfl⟩
 | .lit _,_,_=>⟨_,rfl⟩
 | .int _ _,_,_=>⟨_,rfl⟩
 | .bool _,_,_=>⟨_,rfl⟩
 | .str _,_,_=>⟨_,rfl⟩
 | .nilp,_,_=>⟨_,rfl⟩
 | .nilf,_,_=>⟨_,rfl⟩
 | .nili,_,_=>⟨_,rfl⟩
 | .emp _,_,_=>⟨_,rfl⟩
 | .nilm,_,_=>⟨_,rfl⟩
 | .rows _,_,_=>⟨_,rfl⟩
 | .rptr _ _,_,_=>⟨_,rfl⟩
 | .any,_,_=>⟨_,rfl⟩
theorem XF:∀ (l l':List AV),Yk h l=some l'→∃ b,YN h l=some b
 | [],_,_=>⟨_,rfl⟩
 | a::r,l',e=>by
  simp only [Yk] at e
  split at e
  ·rename_i a2 ha
   split at e
   ·rename_i r2 hr
    obtain ⟨b,hb⟩:=ZcU a a2 ha
    obtain ⟨c,hc⟩:=XF r r2 hr
    exact ⟨b::c,by simp [YN,hb,hc]⟩
   ·simp at e
  ·simp at e
end
theorem Zn4 {nl:Bool} {l:List AV} (e:Zdy nl h l=none):Yk h l=none:=by
 cases nl with
 | false=>exact e
 | true =>
  cases hp:Yk h l with
  | none=>rfl
  | some l' =>
   obtain ⟨b,hb⟩:=XF l l' hp
   rw [show Zdy true h l=YN h l from rfl,hb] at e
   simp at e
theorem Zed {F:Tk→Res} {nl:Bool} {g:FuncId} {all:List AV} {x:AV} {T:List Nat} (hT:∀ args,Yk h all=none→WC h all=some args→T=YO h 100 (Zk args) []) (e:XQ F g h all (Zdy nl h all)=some (x,h')):h.length≤h'.length∧∀ l,l < h.length→l∉T→h'[l]? = h[l]? := by
 unfold XQ at e
 split at e
 ·rename_i pure hp
  unfold X4 at e
  split at e
  ·simp only [Option.some.injEq,Prod.mk.injEq] at e
   obtain ⟨_,rfl⟩:=e
   exact ⟨Nat.le_refl _,fun _ _ _=>rfl⟩
  ·split at e
   ·simp only [Option.some.injEq,Prod.mk.injEq] at e
    obtain ⟨_,rfl⟩:=e
    exact ⟨by simp,fun l hl _=>List.getElem?_append_left hl⟩
   ·simp at e
  ·simp only [Yt,Option.some.injEq,Prod.mk.injEq] at e
   obtain ⟨_,rfl⟩:=e
   exact ⟨by simp [back],fun l hl _=>by simp only [back];exact List.getElem?_append_left hl⟩
  ·simp at e
 ·rename_i hp
  split at e
  ·rename_i args hca
   have hTe:=hT args (Zn4 hp) hca
   unfold Jy at e
   split at e
   ·split at e
    ·split at e
     ·unfold QA at e
      split at e
      ·split at e
       ·simp only [Option.some.injEq,Prod.mk.injEq] at e
        obtain ⟨_,rfl⟩:=e
        refine ⟨by rw [Z4];exact Nat.le_refl _,fun l _ hn=>W7 _ _ _ _ _ ?_⟩
        rw [←hTe];exact hn
       ·rename_i r0 h2 _ _
        have many:Yt h (YO h 100 (Zk args) []) r0 h2=some (x,h')→h.length≤h'.length∧∀ l,l < h.length→l∉T→h'[l]? = h[l]? := fun e=>by
         simp only [Yt,Option.some.injEq,Prod.mk.injEq] at e
         obtain ⟨_,rfl⟩:=e
         refine ⟨by simp [Z4],fun l hl hn=>?_⟩
         rw [List.getElem?_append_left (by rw [Z4];exact hl)]
         refine W7 _ _ _ _ _ ?_
         rw [←hTe];exact hn
        split at e
        ·split at e
         ·split at e
          rotate_left
          ·exact many e
          simp only [Option.some.injEq,Prod.mk.injEq] at e
          obtain ⟨_,rfl⟩:=e
          refine ⟨by simp [Z4],fun l hl hn=>?_⟩
          rw [List.getElem?_append_left (by rw [Z4];exact hl)]
          refine W7 _ _ _ _ _ ?_
          rw [←hTe];exact hn
         ·exact many e
        ·split at e
         ·exact many e
         ·simp at e
      ·simp at e
     ·simp at e
    ·simp at e
   ·simp at e
  ·simp at e
theorem ZfY {C:Cfg} {F:Tk→Res} {ev:Operand→AV} {x:AV} (o:Op) (e:Z0 C F ev h o=some (x,h')):h.length≤h'.length∧∀ l,l < h.length→l∉Yh ev h o→h'[l]? = h[l]? := by
 have quiet:∀ {v:Option AV},val h v=some (x,h')→h.length≤h'.length∧∀ l,l < h.length→l∉Yh ev h o→h'[l]? = h[l]? := fun {v} ev'=>by
  cases v with
  | none=>simp [val] at ev'
  | some v =>
   simp only [val,Option.some.injEq,Prod.mk.injEq] at ev'
   obtain ⟨_,rfl⟩:=ev'
   exact ⟨Nat.le_refl _,fun _ _ _=>rfl⟩
 have push:∀ b:Blk,h'=h++[b]→h.length≤h'.length∧∀ l,l < h.length→l∉Yh ev h o→h'[l]? = h[l]? := fun b hb=>by
  subst hb
  exact ⟨by simp,fun l hl _=>List.getElem?_append_left hl⟩
 have alo:∀ {v:Option AV},Go.Ab.alloc h v=some (x,h')→∃ b,h'=h++[b]:=fun {v} ea=>by
  unfold Go.Ab.alloc at ea
  split at ea
  ·split at ea
   ·simp only [Option.some.injEq,Prod.mk.injEq] at ea
    exact ⟨_,ea.2.symm⟩
   ·simp at ea
  ·simp at ea
 have setl:∀ (l0:Nat) (b:Blk),h'=h.set l0 b→l0∈Yh ev h o→h.length≤h'.length∧∀ l,l < h.length→l∉Yh ev h o→h'[l]? = h[l]? := fun l0 b hb ht=>by
  subst hb
  refine ⟨by simp,fun l hl hn=>?_⟩
  rw [List.getElem?_set_ne]
  intro e0
  subst e0
  exact hn ht
 have mset:∀ {t:TypeId} {m k v:Operand},(∀ l,ev m=.mp l→l∈Yh ev h o)→WO (Q2 C.P t h (ev m) (ev k) (ev v))=some (x,h')→h.length≤h'.length∧∀ l,l < h.length→l∉Yh ev h o→h'[l]? = h[l]? := fun {t m k v} ht e=>by
  simp only [WO] at e
  split at e
  ·rename_i h1 hs
   simp only [Option.some.injEq,Prod.mk.injEq] at e
   obtain ⟨_,rfl⟩:=e
   unfold Q2 at hs
   split at hs
   ·rename_i l0 hp
    split at hs
    ·split at hs
     ·split at hs
      ·simp only [Option.some.injEq] at hs
       exact setl l0 _ hs.symm (ht l0 hp)
      ·simp at hs
     ·simp at hs
    ·simp at hs
   ·simp at hs
  ·simp at e
 cases o with
 | alloc t =>
  simp only [Z0] at e
  obtain ⟨x0,e0⟩:=ZiS e
  obtain ⟨b,hb⟩:=ZkK e0
  exact push b hb
 | box t y =>
  simp only [Z0] at e
  obtain ⟨b,hb⟩:=alo e
  exact push b hb
 | store t p v =>
  simp only [Z0,WO] at e
  split at e
  ·rename_i h1 hs
   simp only [Option.some.injEq,Prod.mk.injEq] at e
   obtain ⟨_,rfl⟩:=e
   unfold Zdd at hs
   split at hs
   ·rename_i l0 o0 hp
    split at hs
    ·split at hs
     ·split at hs
      ·simp only [Option.some.injEq] at hs
       exact setl l0 _ hs.symm (by simp [Yh,hp,Zm])
      ·simp at hs
     ·simp at hs
    ·simp at hs
   ·rename_i l0 n0 i0 o0 hp
    split at hs
    ·split at hs
     ·split at hs
      ·split at hs
       ·split at hs
        ·simp only [Option.some.injEq] at hs
         exact setl l0 _ hs.symm (by simp [Yh,hp,Zm])
        ·simp at hs
       ·simp at hs
      ·simp at hs
     ·simp at hs
    ·simp at hs
   ·simp at hs
  ·simp at e
 | makeMap t r =>
  cases r with
  | none =>
   simp only [Z0,Option.some.injEq,Prod.mk.injEq] at e
   exact push _ e.2.symm
  | some _=>simp [Z0,ZH,val] at e
 | buildSlice t n parts =>
  simp only [Z0] at e
  cases hd:ZH C F ev h (.buildSlice t n parts) with
  | some v =>
   simp only [hd,Jl] at e
   exact quiet (v:=some v) e
  | none =>
   simp only [hd,Jl] at e
   unfold Jv at e
   split at e
   ·unfold Ze9 at e
    split at e
    ·split at e
     ·simp only [Option.some.injEq,Prod.mk.injEq] at e
      exact push _ e.2.symm
     ·simp at e
    ·simp at e
   ·simp at e
 | mapUpdate t m k v =>
  simp only [Z0] at e
  exact mset (fun l0 hp=>by simp [Yh,hp,Zm]) e
 | insert t m k v =>
  simp only [Z0] at e
  refine mset (t:=t) (m:=m) (k:=k) (v:=v) (fun l0 hp=>by simp [Yh,hp,Zm]) ?_
  cases hs:Ju C.P t h (ev m) (ev k) (ev v) with
  | none=>simp [hs,WO] at e
  | some h1 =>
   rw [hs] at e
   rw [(Zag hs).2]
   exact e
 | makeSlice t n m =>
  simp only [Z0] at e
  unfold Yg at e
  split at e
  ·split at e
   ·split at e
    ·split at e
     ·unfold Zdj at e
      split at e
      ·split at e
       ·simp only [Option.some.injEq,Prod.mk.injEq] at e
        exact push _ e.2.symm
       ·simp at e
      ·simp at e
     ·simp at e
    ·simp at e
   ·simp at e
  ·simp at e
 | call c =>
  simp only [Z0,Zaa] at e
  split at e
  ·rename_i f hc
   unfold Yv at e
   split at e
   ·rename_i g caps hg
    exact Zed (fun args h1 h2=>by simp [Yh,hc,Y7,hg,h1,h2]) e
   ·rename_i g fs hg
    exact Zed (fun args h1 h2=>by simp [Yh,hc,Y7,hg,h1,h2]) e
   ·simp at e
  ·rename_i hc
   unfold Zch at e
   split at e
   ·rename_i xs ys hxy
    split at e
    ·split at e
     ·split at e
      ·split at e
       ·split at e
        ·obtain ⟨xs',x',e,hlx⟩:=Zb6 e
         unfold YQ at e
         split at e
         ·split at e
          ·simp only [Option.some.injEq,Prod.mk.injEq] at e
           exact push _ e.2.symm
          ·simp at e
         ·split at e
          ·simp only [Option.some.injEq,Prod.mk.injEq] at e
           exact push _ e.2.symm
          ·split at e
           ·simp only [Option.some.injEq,Prod.mk.injEq] at e
            obtain ⟨_,rfl⟩:=e
            exact ⟨Nat.le_refl _,fun _ _ _=>rfl⟩
           ·simp at e
         ·rename_i l0 n0
          split at e
          ·split at e
           ·simp only [Option.some.injEq,Prod.mk.injEq] at e
            exact setl l0 _ e.2.symm (by simp [Yh,hc,hxy,Zk,←hlx,Zm])
           ·simp at e
          ·simp at e
         ·simp at e
        ·simp at e
       ·simp at e
      ·simp at e
     ·split at e
      ·unfold ZeE at e
       split at e
       ·split at e
        ·obtain ⟨xs',x',e,hlx⟩:=Zb6 e
         unfold YQ at e
         split at e
         ·split at e
          ·simp only [Option.some.injEq,Prod.mk.injEq] at e
           exact push _ e.2.symm
          ·simp at e
         ·split at e
          ·simp only [Option.some.injEq,Prod.mk.injEq] at e
           exact push _ e.2.symm
          ·split at e
           ·simp only [Option.some.injEq,Prod.mk.injEq] at e
            obtain ⟨_,rfl⟩:=e
            exact ⟨Nat.le_refl _,fun _ _ _=>rfl⟩
           ·simp at e
         ·rename_i l0 n0
          split at e
          ·split at e
           ·simp only [Option.some.injEq,Prod.mk.injEq] at e
            exact setl l0 _ e.2.symm (by simp [Yh,hc,hxy,Zk,←hlx,Zm])
           ·simp at e
          ·simp at e
         ·simp at e
        ·simp at e
       ·simp at e
      ·simp at e
     ·simp at e
    ·simp at e
   ·simp at e
  ·exact quiet e
  ·simp at e
 | _=>exact quiet (by simpa only [Z0] using e)
end
section
variable {Bs:World→Prop}
variable {P:Program} {h h':Zd} {ev ev':Operand→AV}
theorem QM:∀ (l:List Operand),(∀ x,x∈l→ev x=ev' x)→evs ev l=evs ev' l
 | [],_=>rfl
 | x::r,e=>by simp only [evs];rw [e x (by simp),QM r (fun y hy=>e y (by simp [hy]))]
theorem ZgI (x:Option Operand) (e:∀ y,x=some y→ev y=ev' y):evo ev x=evo ev' x:=by
 cases x with
 | none=>rfl
 | some y=>simp only [evo];rw [e y rfl]
theorem ZcA {kn:Bool} {z:Nat}:∀ (ps:List (Nat×Operand)) (i:Nat),(∀ p,p∈ps→ev p.2=ev' p.2)→WZ kn h ev z i ps=WZ kn h ev' z i ps
 | [],_,_=>rfl
 | (j,x)::r,i,e=>by
  simp only [WZ]
  rw [e (j,x) (by simp),ZcA r (i+1) (fun p hp=>e p (by simp [hp]))]
theorem Zcj {place:Nat→Option (Nat×Nat)}:∀ (ps:List (Nat×Operand)) (cs:List AV),(∀ p,p∈ps→ev p.2=ev' p.2)→QQ place ev cs ps=QQ place ev' cs ps
 | [],_,_=>rfl
 | (j,x)::r,cs,e=>by
  have hx:ev x=ev' x:=e (j,x) (by simp)
  have hr:∀ cs,QQ place ev cs r=QQ place ev' cs r:=fun cs=>Zcj r cs (fun p hp=>e p (by simp [hp]))
  simp only [QQ,hx,hr]
theorem ZhP {p:Option Plc} {z:Option AV} (ps:List (Nat×Operand)) (e:∀ p,p∈ps→ev p.2=ev' p.2):ZbN ev ps p z=ZbN ev' ps p z:=by
 unfold ZbN
 split
 ·exact Zcj _ _ e
 ·rfl
theorem ZdQ {C:Cfg} {F:Tk→Res} (o:Op) (e:∀ x,x∈o.operands→ev x=ev' x):ZH C F ev h o=ZH C F ev' h o:=by
 cases o with
 | build t ps =>
  simp only [ZH]
  exact ZhP _ fun p hp=>e p.2 (by simp only [Op.operands];simpa using ⟨p.1,by simpa using hp⟩)
 | buildSlice t n ps =>
  simp only [ZH]
  split
  ·rw [ZcA ps.toList 0 fun p hp=>e p.2 (by simp only [Op.operands];simpa using ⟨p.1,by simpa using hp⟩)]
  ·rfl
 | makeFunc f first captured =>
  cases f with
  | func g =>
   simp only [ZH]
   rw [QM (ev:=ev) (ev':=ev') captured.toList fun x hx=>e x (by simp only [Op.operands];simp;exact .inr (by simpa using hx)),QM (ev:=ev) (ev':=ev') first.toList fun x hx=>e x (by simp only [Op.operands];simp;exact .inl (by simpa using hx))]
  | _=>rfl
 | slice t x lo hi mx =>
  cases mx with
  | none =>
   simp only [ZH]
   rw [e x (by simp [Op.operands]),ZgI lo fun y hy=>e y (by subst hy;simp [Op.operands]),ZgI hi fun y hy=>e y (by subst hy;simp [Op.operands])]
  | some _=>rfl
 | call c =>
  have hargs:evs ev c.args.toList=evs ev' c.args.toList:=QM _ fun x hx=>e x (by simp only [Op.operands,Call.operands];simp;exact .inr (by simpa using hx))
  simp only [ZH,QC,hargs]
  split
  ·rename_i f hc
   rw [e f (by simp [Op.operands,Call.operands,hc])]
  ·rfl
  ·rfl
 | binOp op t x y t' =>
  simp only [ZH]
  rw [e x (by simp [Op.operands]),e y (by simp [Op.operands])]
 | pick c a b =>
  simp only [ZH]
  rw [e c (by simp [Op.operands]),e a (by simp [Op.operands]),e b (by simp [Op.operands])]
 | indexAddr t x i=>simp only [ZH];rw [e x (by simp [Op.operands]),e i (by simp [Op.operands])]
 | index t x i=>simp only [ZH];rw [e x (by simp [Op.operands]),e i (by simp [Op.operands])]
 | lookup t x i ok=>simp only [ZH];rw [e x (by simp [Op.operands]),e i (by simp [Op.operands])]
 | move x=>simp only [ZH];rw [e x (by simp [Op.operands])]
 | assign x=>simp only [ZH];rw [e x (by simp [Op.operands])]
 | load t x=>simp only [ZH];rw [e x (by simp [Op.operands])]
 | nilCheck x=>simp only [ZH];rw [e x (by simp [Op.operands])]
 | unOp op t x=>simp only [ZH];rw [e x (by simp [Op.operands])]
 | convert s t x=>simp only [ZH];rw [e x (by simp [Op.operands])]
 | makeInterface t x=>simp only [ZH];rw [e x (by simp [Op.operands])]
 | fieldAddr t x f=>simp only [ZH];rw [e x (by simp [Op.operands])]
 | field t x f=>simp only [ZH];rw [e x (by simp [Op.operands])]
 | extract x i=>simp only [ZH];rw [e x (by simp [Op.operands])]
 | _=>rfl
theorem ZbI {z:Nat}:∀ (l:List (Nat×Operand)) (i:Nat),(∀ p,p∈l→ev p.2=ev' p.2)→W5 h ev z i l=W5 h ev' z i l
 | [],_,_=>rfl
 | (j,x)::r,i,e=>by
  simp only [W5]
  rw [show ev x=ev' x from e (j,x) (by simp),ZbI r (i+1) fun p hp=>e p (List.mem_cons_of_mem _ hp)]
theorem Zid {t:TypeId} {n:Nat} {ps:Array (Nat×Operand)} {z:Option (Nat×Nat)} (e:∀ x,x∈(Op.buildSlice t n ps).operands→ev x=ev' x):Jv h ev n ps.toList z=Jv h ev' n ps.toList z:=by
 cases z with
 | none=>rfl
 | some z =>
  simp only [Jv]
  rw [ZbI _ _ fun p hp=>e p.2 (by simp only [Op.operands];simp;exact ⟨p.1,by simpa using hp⟩)]
theorem Zjm {C:Cfg} {F:Tk→Res} (o:Op) (e:∀ x,x∈o.operands→ev x=ev' x):Z0 C F ev h o=Z0 C F ev' h o:=by
 have hd:=ZdQ (C:=C) (F:=F) (h:=h) o e
 cases o with
 | alloc t=>rfl
 | box t x=>simp only [Z0];rw [e x (by simp [Op.operands])]
 | store t a v=>simp only [Z0];rw [e a (by simp [Op.operands]),e v (by simp [Op.operands])]
 | makeSlice t n m=>simp only [Z0];rw [e n (by simp [Op.operands]),e m (by simp [Op.operands])]
 | buildSlice t n ps=>simp only [Z0];rw [hd,Zid e]
 | makeMap t r=>cases r<;>rfl
 | mapUpdate t m k v=>simp only [Z0];rw [e m (by simp [Op.operands]),e k (by simp [Op.operands]),e v (by simp [Op.operands])]
 | insert t m k v=>simp only [Z0];rw [e m (by simp [Op.operands]),e k (by simp [Op.operands]),e v (by simp [Op.operands])]
 | call c =>
  have hargs:evs ev c.args.toList=evs ev' c.args.toList:=QM _ fun x hx=>e x (by simp only [Op.operands,Call.operands];simp;exact .inr (by simpa using hx))
  simp only [Z0,Zaa,hargs]
  split
  ·rename_i f hc
   rw [e f (by simp [Op.operands,Call.operands,hc])]
  ·rfl
  ·rfl
  ·rfl
 | _=>simpa only [Z0] using congrArg (val h) hd
theorem ZjX {C:Cfg} {l:Nat} (o:Op) (e:∀ x,x∈o.operands→ev x=ev' x):Zay C ev h l o=Zay C ev' h l o:=by
 cases o with
 | box t x=>simp only [Zay];rw [e x (by simp [Op.operands])]
 | makeMap t r=>cases r<;>rfl
 | makeSlice t n m=>simp only [Zay];rw [e n (by simp [Op.operands]),e m (by simp [Op.operands])]
 | _=>rfl
theorem Zf5 (o:Op) (e:∀ x,x∈o.operands→ev x=ev' x):Yh ev h o=Yh ev' h o:=by
 cases o with
 | store t a v=>simp only [Yh];rw [e a (by simp [Op.operands])]
 | mapUpdate t m k v=>simp only [Yh];rw [e m (by simp [Op.operands])]
 | insert t m k v=>simp only [Yh];rw [e m (by simp [Op.operands])]
 | call c =>
  have hargs:evs ev c.args.toList=evs ev' c.args.toList:=QM _ fun x hx=>e x (by simp only [Op.operands,Call.operands];simp;exact .inr (by simpa using hx))
  simp only [Yh,hargs]
  split
  ·rename_i f hc
   rw [e f (by simp [Op.operands,Call.operands,hc])]
  ·rfl
 | _=>rfl
end
section
variable {Bs:World→Prop}
def evF (g:Nat→AV):Operand→AV
 | .tmp t=>g t
 | .const v=>Xr v
 | .func f=>.fn f []
 | .global _=>.any
theorem ZuX (fr:Fr):ev fr=evF (get fr):=by funext x;cases x<;>rfl
def Jp (g:Nat→AV):Option Nat→AV→Nat→AV
 | some d,v=>fun i=>if d=i then v else g i
 | none,_=>g
theorem Zmy (fr:Fr) (d:Option Nat) (v:AV):get (put fr d v)=Jp (get fr) d v:=by
 cases d with
 | none=>rfl
 | some d=>funext i;rfl
theorem Zab {g:Nat→AV} {d:Option Nat} {v:AV} {s:Nat} (h:d≠some s):Jp g d v s=g s:=by
 cases d with
 | none=>rfl
 | some d =>
  have:d≠s:=fun e=>h (by rw [e])
  simp [Jp,this]
theorem Zoc {g:Nat→AV} {d e:Option Nat} {v u:AV} (h:∀ s,d=some s→e≠some s):Jp (Jp g d v) e u=Jp (Jp g e u) d v:=by
 cases d with
 | none=>rfl
 | some d =>
  cases e with
  | none=>rfl
  | some e =>
   have hne:d≠e:=fun x=>h d rfl (by rw [x])
   funext i
   simp only [Jp]
   by_cases h1:d=i
   ·subst h1
    have:¬e=d:=fun x=>hne x.symm
    simp [this]
   ·simp [h1]
def ZdS (g:Nat→AV):Option Nat→AV
 | some d=>g d
 | none=>.any
theorem Znf (fr:Fr) (d:Option Nat):ZbL fr d=ZdS (get fr) d:=by cases d<;>rfl
def XU (ops:Array Oper) (g:Nat→AV) (o:Oper):Option Bool :=
 match o.guard with
 | none=>some true
 | some (j,want)=>match ZdS g (XH ops.toList j) with
  | .bool b=>some (decide (b=want))
  | .tup []=>some false
  | _=>none
def Z8 (C:Cfg) (F:Tk→Res) (dy:List (Nat×Nat)) (pl:Nat→Nat) (ops:Array Oper) (i:Nat) (g:Nat→AV) (h:Zd):Option (AV×Zd×List Nat) :=
 match ops[i]? with
 | none=>none
 | some o=>match XU ops g o with
  | some true=>match Xk C F dy pl i (evF g) h o.op with
   | some (x,h')=>some (x,h',chg h h' (Z9 dy i (evF g) h o.op))
   | none=>none
  | some false=>some (.tup [],h,[])
  | none=>none
end
section
variable {Bs:World→Prop}
variable {C:Cfg} {F:Tk→Res} {dy:List (Nat×Nat)} {pl:Nat→Nat} {ops:Array Oper} {i:Nat} {o:Oper} {g g':Nat→AV} {h h':Zd} {x:AV} {T:List Nat}
theorem Zbv (e:∀ t,t∈o.looksAt ops→g t=g' t):∀ y,y∈o.op.operands→evF g y=evF g' y:=fun y hy=>by
 cases y with
 | tmp t=>exact e t (List.mem_append_left _ (List.mem_filterMap.2 ⟨.tmp t,by simpa using hy,rfl⟩))
 | _=>rfl
theorem Zh3 (e:∀ t,t∈o.looksAt ops→g t=g' t):XU ops g o=XU ops g' o:=by
 unfold XU
 cases hg:o.guard with
 | none=>rfl
 | some jw =>
  obtain ⟨j,want⟩:=jw
  have:ZdS g (XH ops.toList j)=ZdS g' (XH ops.toList j):=by
   unfold XH
   simp only [Array.getElem?_toList]
   cases hj:ops[j]? with
   | none=>rfl
   | some oj =>
    simp only
    cases hd:oj.dst with
    | none=>rfl
    | some d=>exact e d (List.mem_append_right _ (by simp [hg,hj,hd]))
  simp only [this]
theorem Zjt (e:∀ t,t∈o.looksAt ops→g t=g' t):Xk C F dy pl i (evF g) h o.op=Xk C F dy pl i (evF g') h o.op:=by
 unfold Xk
 rw [ZdQ _ (Zbv e),Zjm _ (Zbv e),ZjX _ (Zbv e)]
theorem Zeb (ho:ops[i]? = some o) (e:∀ t,t∈o.looksAt ops→g t=g' t):Z8 C F dy pl ops i g h=Z8 C F dy pl ops i g' h:=by
 unfold Z8 Z9
 simp only [ho]
 rw [Zh3 e,Zjt e,Zf5 _ (Zbv e)]
theorem ZuV {a b:IntKind} (h:eqK a b=true):a=b:=by simpa [eqK] using h
mutual
theorem Zia:∀ (a b:AV),eqA a b=true→a=b
 | .int k a,b,h=>by cases b<;>simp [eqA] at h;obtain ⟨h1,h2⟩:=h;rw [ZuV h1,h2]
 | .bool a,b,h=>by cases b<;>simp [eqA] at h;rw [h]
 | .str a,b,h=>by cases b<;>simp [eqA] at h;rw [h]
 | .nilp,b,h=>by cases b<;>simp [eqA] at h;rfl
 | .nilf,b,h=>by cases b<;>simp [eqA] at h;rfl
 | .nili,b,h=>by cases b<;>simp [eqA] at h;rfl
 | .nilm,b,h=>by cases b<;>simp [eqA] at h;rfl
 | .nils,b,h=>by cases b<;>simp [eqA] at h;rfl
 | .emp a,b,h=>by cases b<;>simp [eqA] at h;rw [h]
 | .rows a,b,h=>by cases b<;>simp [eqA] at h;rw [Zh0 a _ h]
 | .lit a,b,h=>by cases b<;>simp [eqA] at h;rw [Zh0 a _ h]
 | .rptr a o,b,h=>by cases b<;>simp [eqA] at h;rw [ZaS a _ h.1,h.2]
 | .agg a,b,h=>by cases b<;>simp [eqA] at h;rw [ZaS a _ h]
 | .tup a,b,h=>by cases b<;>simp [eqA] at h;rw [ZaS a _ h]
 | .fn f a,b,h=>by cases b<;>simp [eqA] at h;rw [ZaS a _ h.2,h.1]
 | .bnd f a,b,h=>by cases b<;>simp [eqA] at h;rw [ZaS a _ h.2,h.1]
 | .iface t a,b,h=>by cases b<;>simp [eqA] at h;rw [Zia a _ h.2,h.1]
 | .ptr l o,b,h=>by cases b<;>simp [eqA] at h;rw [h.1,h.2]
 | .own l n,b,h=>by cases b<;>simp [eqA] at h;rw [h.1,h.2]
 | .optr l n i o,b,h=>by cases b<;>simp [eqA] at h;rw [h.1,h.2.1,h.2.2.1,h.2.2.2]
 | .mp l,b,h=>by cases b<;>simp [eqA] at h;rw [h]
 | .tptr t l o,b,h=>by cases b<;>simp [eqA] at h;rw [h.1,h.2.1,h.2.2]
 | .town t l n,b,h=>by cases b<;>simp [eqA] at h;rw [h.1,h.2.1,h.2.2]
 | .any,b,h=>by cases b<;>simp [eqA] at h
theorem ZaS:∀ (a b:List AV),eqL a b=true→a=b
 | [],b,h=>by cases b<;>simp [eqL] at h;rfl
 | a::r,b,h=>by
  cases b with
  | nil=>simp [eqL] at h
  | cons b s =>
   simp only [eqL,Bool.and_eq_true] at h
   rw [Zia a b h.1,ZaS r s h.2]
theorem Zh0:∀ (a b:List (List AV)),eqR a b=true→a=b
 | [],b,h=>by cases b<;>simp [eqR] at h;rfl
 | a::r,b,h=>by
  cases b with
  | nil=>simp [eqR] at h
  | cons b s =>
   simp only [eqR,Bool.and_eq_true] at h
   rw [ZaS a b h.1,Zh0 r s h.2]
end
theorem ZqP:∀ (a b:List (AV×AV)),eqE a b=true→a=b
 | [],b,h=>by cases b<;>simp [eqE] at h;rfl
 | (a,a')::r,b,h=>by
  cases b with
  | nil=>simp [eqE] at h
  | cons b s =>
   obtain ⟨b,b'⟩:=b
   simp only [eqE,Bool.and_eq_true] at h
   rw [Zia a b h.1,Zia a' b' h.2.1,ZqP r s h.2.2]
theorem ZpN {a b:Option Blk} (h:eqB a b=true):a=b:=by
 unfold eqB at h
 split at h
 ·rw [ZaS _ _ h]
 ·simp only [Bool.and_eq_true,beq_iff_eq] at h
  rw [h.1,h.2.1,Zh0 _ _ h.2.2]
 ·rw [ZqP _ _ h]
 ·rfl
 ·simp at h
theorem ZeV {h h':Zd} {l:Nat}:∀ {T:List Nat},l∉chg h h' T→(l∉T→h'[l]? = h[l]?)→h'[l]? = h[l]?
 | [],_,e=>e (by simp)
 | x::T,hn,e=>by
  simp only [chg] at hn
  by_cases hl:l=x
  ·subst hl
   split at hn
   ·rename_i hq;exact (ZpN hq).symm
   ·simp at hn
  ·split at hn
   ·exact ZeV hn fun h1=>e (by simp [hl,h1])
   ·exact ZeV (fun h2=>hn (List.mem_cons_of_mem _ h2)) fun h1=>e (by simp [hl,h1])
theorem Jj (ho:ops[i]? = some o) (hq:isQ dy i o.op=true) (e:Z8 C F dy pl ops i g h=some (x,h',T)):h'=h∧T=[]:=by
 unfold Z8 at e
 simp only [ho] at e
 split at e
 ·unfold Xk Z9 at e
  simp only [hq,if_true] at e
  cases hd:ZH C (lv F) (evF g) h o.op with
  | none=>simp [hd,val] at e
  | some v =>
   simp only [hd,val,Option.some.injEq,Prod.mk.injEq] at e
   exact ⟨e.2.1.symm,e.2.2.symm⟩
 ·simp only [Option.some.injEq,Prod.mk.injEq] at e
  exact ⟨e.2.1.symm,e.2.2.symm⟩
 ·simp at e
mutual
theorem PRep.no_locs {M:Nat→Nat→Prop} {w:World}:∀ (a:AV) (v:Value),PRep M w a v→Zm a=[]
 | .agg cs,_,r=>by obtain ⟨vs,_,r⟩:=r;exact PRepL.no_locs cs vs r
 | .tup cs,_,r=>by obtain ⟨vs,_,r⟩:=r;exact PRepL.no_locs cs vs r
 | .fn _ cs,_,r=>by obtain ⟨vs,_,r⟩:=r;exact PRepL.no_locs cs vs r
 | .bnd _ cs,_,r=>by obtain ⟨vs,_,r⟩:=r;exact PRepL.no_locs cs vs r
 | .iface _ a,_,r=>by obtain ⟨y,_,r⟩:=r;exact PRep.no_locs a y r
 | .ptr _ _,_,r=>r.elim
 | .own _ _,_,r=>r.elim
 | .optr _ _ _ _,_,r=>r.elim
 | .mp _,_,r=>r.elim
 | .tptr _ _ _,_,r=>r.elim
 | .town _ _ _,_,r=>r.elim
 | .int _ _,_,_=>rfl
 | .bool _,_,_=>rfl
 | .str _,_,_=>rfl
 | .nilp,_,_=>rfl
 | .nilf,_,_=>rfl
 | .nili,_,_=>rfl
 | .emp _,_,_=>rfl
 | .nilm,_,_=>rfl
 | .nils,_,_=>rfl
 | .rows _,_,_=>rfl
 | .lit _,_,_=>rfl
 | .rptr _ _,_,_=>rfl
 | .any,_,_=>rfl
theorem PRepL.no_locs {M:Nat→Nat→Prop} {w:World}:∀ (l:List AV) (vs:List Value),PRepL M w l vs→Zk l=[]
 | [],_,_=>rfl
 | a::r,_,x=>by
  obtain ⟨v,vr,_,h1,h2⟩:=x
  simp only [Zk]
  rw [PRep.no_locs a v h1,PRepL.no_locs r vr h2]
  rfl
end
theorem ZbQ (v:Value):Zm (Xr v)=[]:=PRep.no_locs (M:=fun _ _=>True) (w:=default) _ v (XE v)
def Xi (o:Op):List Nat:=(W0 o).filterMap fun
 | .tmp t=>some t
 | _=>none
theorem Zlp {o:Op} {t:Nat} (h:Operand.tmp t∈W0 o):t∈Xi o:=List.mem_filterMap.2 ⟨_,h,rfl⟩
theorem Zec (ho:ops[i]? = some o) (hq:isQ dy i o.op=true) (e:∀ s,s∈Xi o.op→∀ l,l∈Zm (g s)→h[l]? = h'[l]?) (hs:Z8 C F dy pl ops i g h=some (x,h,T)):Z8 C F dy pl ops i g h'=some (x,h',T):=by
 unfold Z8 at hs ⊢
 simp only [ho] at hs ⊢
 cases hg:XU ops g o with
 | none=>simp [hg] at hs
 | some b =>
  cases b with
  | true =>
   simp only [hg] at hs ⊢
   unfold Xk Z9 at hs ⊢
   simp only [hq,if_true] at hs ⊢
   have:ZH C (lv F) (evF g) h o.op=ZH C (lv F) (evF g) h' o.op:=ZiF _ fun y hy l hl=>by
    cases y with
    | tmp t=>exact e t (Zlp hy) l hl
    | const v=>rw [show evF g (.const v)=Xr v from rfl,ZbQ] at hl;simp at hl
    | func f=>simp [evF,Zm,Zk] at hl
    | global _=>simp [evF,Zm] at hl
   rw [←this]
   cases hd:ZH C (lv F) (evF g) h o.op with
   | none=>simp [hd,val] at hs
   | some v =>
    simp only [hd,val,Option.some.injEq,Prod.mk.injEq,chg] at hs
    simp only [val,chg]
    rw [hs.1,hs.2.2]
  | false =>
   simp only [hg,Option.some.injEq,Prod.mk.injEq] at hs
   simp only
   rw [←hs.1,←hs.2.2]
theorem Zlz {C:Cfg} {ev:Operand→AV} {h h':Zd} {l:Nat} {o:Op} {x:AV} (e:Zay C ev h l o=some (x,h')):∃ b,h[l]? = some .hole∧h'=h.set l b∧∀ h2:Zd,h2[l]? = some .hole→Zay C ev h2 l o=some (x,h2.set l b):=by
 have core:∀ {v:Option AV},fill h l v=some (x,h')→∃ b,h[l]? = some .hole∧h'=h.set l b∧∀ h2:Zd,h2[l]? = some .hole→fill h2 l v=some (x,h2.set l b):=by
  intro v e
  unfold fill at e
  split at e
  ·split at e
   ·rename_i a cs hcs hl
    simp only [Option.some.injEq,Prod.mk.injEq] at e
    obtain ⟨rfl,rfl⟩:=e
    exact ⟨.cells cs,hl,rfl,fun h2 hh=>by simp only [fill,hcs,hh]⟩
   ·simp at e
  ·simp at e
 unfold Zay at e ⊢
 split at e
 ·exact core e
 ·exact core e
 ·unfold ZiK at e
  split at e
  ·rename_i hl
   simp only [Option.some.injEq,Prod.mk.injEq] at e
   obtain ⟨rfl,rfl⟩:=e
   exact ⟨.map [],hl,rfl,fun h2 hh=>by simp only [ZiK,hh]⟩
  ·simp at e
 ·unfold Zju at e
  split at e
  ·rename_i heq
   split at e
   ·rename_i hl
    simp only [Option.some.injEq,Prod.mk.injEq] at e
    obtain ⟨rfl,rfl⟩:=e
    exact ⟨_,hl,rfl,fun h2 hh=>by simp only [heq,Zju,hh]⟩
   ·simp at e
  ·simp at e
 ·simp at e
theorem Zso {dy:List (Nat×Nat)} {i:Nat} {o:Op} (h:alo o=true):isQ dy i o=false:=by
 unfold alo at h
 split at h
 ·rfl
 ·rfl
 ·rfl
 ·rfl
 ·simp at h
theorem WT (ho:ops[i]? = some o) (ha:alo o.op=true) (e:Z8 C F dy pl ops i g h=some (x,h',T)) :
  T=[]∧((h'=h∧∀ h2,Z8 C F dy pl ops i g h2=some (x,h2,[]))∨∃ b,h[pl i]? = some .hole∧h'=h.set (pl i) b∧∀ h2:Zd,h2[pl i]? = some .hole→Z8 C F dy pl ops i g h2=some (x,h2.set (pl i) b,[])):=by
 have hT:Z9 dy i (evF g) h o.op=[]:=by
  unfold Z9
  split
  ·rfl
  ·unfold alo at ha
   split at ha
   ·rename_i h1;rw [h1];rfl
   ·rename_i h1;rw [h1];rfl
   ·rename_i h1;rw [h1];rfl
   ·rename_i h1;rw [h1];rfl
   ·simp at ha
 have hT2:∀ h2,Z9 dy i (evF g) h2 o.op=[]:=fun h2=>by
  unfold Z9
  split
  ·rfl
  ·unfold alo at ha
   split at ha
   ·rename_i h1;rw [h1];rfl
   ·rename_i h1;rw [h1];rfl
   ·rename_i h1;rw [h1];rfl
   ·rename_i h1;rw [h1];rfl
   ·simp at ha
 unfold Z8 at e ⊢
 simp only [ho] at e ⊢
 cases hg:XU ops g o with
 | none=>simp [hg] at e
 | some b =>
  cases b with
  | false =>
   simp only [hg,Option.some.injEq,Prod.mk.injEq] at e
   obtain ⟨rfl,rfl,rfl⟩:=e
   exact ⟨rfl,.inl ⟨rfl,fun h2=>rfl⟩⟩
  | true =>
   simp only [hg] at e ⊢
   unfold Xk at e ⊢
   simp only [Zso ha,ha,if_true,Bool.false_eq_true,if_false,hT2] at e ⊢
   split at e
   ·rename_i y h1 hs
    simp only [Option.some.injEq,Prod.mk.injEq] at e
    obtain ⟨rfl,rfl,rfl⟩:=e
    obtain ⟨b,h3,h4,h5⟩:=Zlz hs
    exact ⟨rfl,.inr ⟨b,h3,h4,fun h2 hh=>by rw [h5 h2 hh];rfl⟩⟩
   ·simp at e
theorem Zaf (e:Z8 C F dy pl ops i g h=some (x,h',T)):h.length≤h'.length∧∀ l,l < h.length→l∉T→h[l]? ≠ some .hole→h'[l]? = h[l]? := by
 cases ho:ops[i]? with
 | none=>simp [Z8,ho] at e
 | some o =>
  by_cases hq:isQ dy i o.op=true
  ·obtain ⟨rfl,_⟩:=Jj ho hq e
   exact ⟨Nat.le_refl _,fun _ _ _ _=>rfl⟩
  ·by_cases ha:alo o.op=true
   ·obtain ⟨_,h1 | ⟨b,h1,h2,_⟩⟩:=WT ho ha e
    ·obtain ⟨rfl,_⟩:=h1
     exact ⟨Nat.le_refl _,fun _ _ _ _=>rfl⟩
    ·subst h2
     refine ⟨by simp,fun l hl _ hn=>List.getElem?_set_ne fun e=>?_⟩
     subst e
     exact hn h1
   ·unfold Z8 at e
    simp only [ho] at e
    split at e
    ·unfold Xk Z9 at e
     simp only [hq,ha] at e
     split at e
     ·rename_i y h1 hs
      simp only [Option.some.injEq,Prod.mk.injEq] at e
      obtain ⟨rfl,rfl,rfl⟩:=e
      have:=ZfY _ (by simpa using hs)
      exact ⟨this.1,fun l h1 h2 _=>ZeV h2 fun h3=>this.2 l h1 (by simpa using h3)⟩
     ·simp at e
    ·simp only [Option.some.injEq,Prod.mk.injEq] at e
     obtain ⟨_,rfl,_⟩:=e
     exact ⟨Nat.le_refl _,fun _ _ _ _=>rfl⟩
    ·simp at e
theorem ZgS (ho:ops[i]? = some o) (ha:alo o.op=true) (e:Z8 C F dy pl ops i g h=some (x,h',T)):T=[]:=(WT ho ha e).1
end
def Znp:Op→Bool
 | .call c=>match c.callee with
  | .value _=>true
  | _=>false
 | _=>false
def Zf4 (p:Nat) (b:Blk):Option (AV×Zd)→Option (AV×Zd)
 | some (r,h)=>some (r,h.set p b)
 | none=>none
section
variable {h h':Zd} {p:Nat} {b:Blk}
mutual
theorem ZkA:∀ a:AV,(∀ l,l∈Zm a→h[l]? = h'[l]?)→Ys h a=Ys h' a
 | .own l n,e=>by simp only [Ys];rw [e l (by simp [Zm])]
 | .agg cs,e=>by simp only [Ys];rw [Jc cs e]
 | .tup _,_=>rfl
 | .fn _ _,_=>rfl
 | .bnd _ _,_=>rfl
 | .iface _ _,_=>rfl
 | .ptr _ _,_=>rfl
 | .optr _ _ _ _,_=>rfl
 | .mp _,_=>rfl
 | .tptr _ _ _,_=>rfl
 | .town _ _ _,_=>rfl
 | .nils,_=>rfl
 | .lit _,_=>rfl
 | .int _ _,_=>rfl
 | .bool _,_=>rfl
 | .str _,_=>rfl
 | .nilp,_=>rfl
 | .nilf,_=>rfl
 | .nili,_=>rfl
 | .emp _,_=>rfl
 | .nilm,_=>rfl
 | .rows _,_=>rfl
 | .rptr _ _,_=>rfl
 | .any,_=>rfl
theorem Jc:∀ l:List AV,(∀ i,i∈Zk l→h[i]? = h'[i]?)→WC h l=WC h' l
 | [],_=>rfl
 | a::r,e=>by
  simp only [WC]
  rw [ZkA a (fun l hl=>e l (by simp [Zk,hl])),Jc r (fun l hl=>e l (by simp [Zk,hl]))]
end
mutual
theorem ZnG:∀ a a':AV,Ys h a=some a'→∀ l,l∈Zm a'→l∈Zm a
 | .own l n,a',e,i,hi=>by
  simp only [Ys] at e
  split at e
  ·split at e
   ·simp only [Option.some.injEq] at e;subst e;exact hi
   ·split at e
    ·simp only [Option.some.injEq] at e;subst e;simp [Zm] at hi
    ·simp at e
  ·simp at e
 | .agg cs,a',e,i,hi=>by
  simp only [Ys] at e
  split at e
  ·rename_i cs' hcs
   simp only [Option.some.injEq] at e;subst e
   exact J9 cs cs' hcs i hi
  ·simp at e
 | .nils,a',e,i,hi=>by simp only [Ys,Option.some.injEq] at e;subst e;simp [Zm] at hi
 | .lit _,a',e,i,hi=>by simp only [Ys,Option.some.injEq] at e;subst e;simp [Zm] at hi
 | .tup _,a',e,i,hi=>by simp only [Ys,Option.some.injEq] at e;subst e;exact hi
 | .fn _ _,a',e,i,hi=>by simp only [Ys,Option.some.injEq] at e;subst e;exact hi
 | .bnd _ _,a',e,i,hi=>by simp only [Ys,Option.some.injEq] at e;subst e;exact hi
 | .iface _ _,a',e,i,hi=>by simp only [Ys,Option.some.injEq] at e;subst e;exact hi
 | .ptr _ _,a',e,i,hi=>by simp only [Ys,Option.some.injEq] at e;subst e;exact hi
 | .optr _ _ _ _,a',e,i,hi=>by simp only [Ys,Option.some.injEq] at e;subst e;exact hi
 | .mp _,a',e,i,hi=>by simp only [Ys,Option.some.injEq] at e;subst e;exact hi
 | .tptr _ _ _,a',e,i,hi=>by simp only [Ys,Option.some.injEq] at e;subst e;exact hi
 | .town _ _ _,a',e,i,hi=>by simp only [Ys,Option.some.injEq] at e;subst e;exact hi
 | .int _ _,a',e,i,hi=>by simp only [Ys,Option.some.injEq] at e;subst e;exact hi
 | .bool _,a',e,i,hi=>by simp only [Ys,Option.some.injEq] at e;subst e;exact hi
 | .str _,a',e,i,hi=>by simp only [Ys,Option.some.injEq] at e;subst e;exact hi
 | .nilp,a',e,i,hi=>by simp only [Ys,Option.some.injEq] at e;subst e;exact hi
 | .nilf,a',e,i,hi=>by simp only [Ys,Option.some.injEq] at e;subst e;exact hi
 | .nili,a',e,i,hi=>by simp only [Ys,Option.some.injEq] at e;subst e;exact hi
 | .emp _,a',e,i,hi=>by simp only [Ys,Option.some.injEq] at e;subst e;exact hi
 | .nilm,a',e,i,hi=>by simp only [Ys,Option.some.injEq] at e;subst e;exact hi
 | .rows _,a',e,i,hi=>by simp only [Ys,Option.some.injEq] at e;subst e;exact hi
 | .rptr _ _,a',e,i,hi=>by simp only [Ys,Option.some.injEq] at e;subst e;exact hi
 | .any,a',e,i,hi=>by simp only [Ys,Option.some.injEq] at e;subst e;exact hi
theorem J9:∀ a a':List AV,WC h a=some a'→∀ l,l∈Zk a'→l∈Zk a
 | [],a',e,i,hi=>by simp only [WC,Option.some.injEq] at e;subst e;exact hi
 | a::r,a',e,i,hi=>by
  simp only [WC] at e
  split at e
  ·rename_i x hx
   split at e
   ·rename_i y hy
    simp only [Option.some.injEq] at e;subst e
    simp only [Zk,List.mem_append] at hi ⊢
    rcases hi with hi | hi
    ·exact .inl (ZnG a x hx i hi)
    ·exact .inr (J9 r y hy i hi)
   ·simp at e
  ·simp at e
end
theorem Zey (l:Nat) (hl:l≠p):h[l]? = (h.set p b)[l]? := (List.getElem?_set_ne (fun e=>hl e.symm)).symm
theorem ZaY {L:List Nat} (hn:p∉L):∀ l,l∈L→h[l]? = (h.set p b)[l]? := fun l hl=>Zey l fun e=>hn (e▸hl)
theorem Q6 (hb:∀ (l:Nat) (k:Blk),h[l]? = some k→p∉Xj k):∀ (n:Nat) (l s:List Nat),p∉l→p∉s→YO (h.set p b) n l s=YO h n l s∧p∉YO h n l s
 | 0,l,s,_,h2=>⟨rfl,h2⟩
 | n+1,[],s,_,h2=>⟨rfl,h2⟩
 | n+1,x::l,s,h1,h2=>by
  simp only [List.mem_cons,not_or] at h1
  have hx:=Zey (h:=h) (b:=b) x fun e=>h1.1 e.symm
  simp only [YO]
  rw [←hx]
  split
  ·exact Q6 hb n l s h1.2 h2
  ·have hs:p∉s++[x]:=by simp [h2,h1.1]
   split
   ·rename_i k hk
    exact Q6 hb n _ _ (by simp only [List.mem_append,not_or];exact ⟨h1.2,hb x k hk⟩) hs
   ·exact Q6 hb n _ _ h1.2 hs
theorem Ziu (σ:Nat→Nat):∀ ls:List Nat,p∉ls→sub (h.set p b) σ ls=sub h σ ls
 | [],_=>rfl
 | l::r,hn=>by
  simp only [List.mem_cons,not_or] at hn
  simp only [sub]
  rw [←Zey (h:=h) (b:=b) l fun e=>hn.1 e.symm,Ziu σ r hn.2]
theorem Zdx (σ:Nat→Nat):∀ (ls:List Nat) (bs h:Zd),p∉ls→back σ ls bs (h.set p b)=(back σ ls bs h).set p b
 | [],bs,h,_=>by cases bs<;>rfl
 | l::ls,[],h,_=>rfl
 | l::ls,k::bs,h,hn=>by
  simp only [List.mem_cons,not_or] at hn
  simp only [back]
  rw [List.set_comm _ _ hn.1,Zdx σ ls bs _ hn.2]
theorem Zfm (σ:Nat→Nat):∀ (ls:List Nat) (bs h:Zd),(back σ ls bs h).length=h.length
 | [],bs,h=>by cases bs<;>rfl
 | l::ls,[],h=>rfl
 | l::ls,k::bs,h=>by simp only [back];rw [Zfm σ ls bs];simp
theorem ZhO {x:Zd} (hp:p < h.length):h.set p b++x=(h++x).set p b:=(List.set_append_left _ _ hp).symm
theorem WB (hp:p < h.length) {ls:List Nat} (hn:p∉ls) (r:AV) (hs:Zd):Yt (h.set p b) ls r hs=Zf4 p b (Yt h ls r hs):=by
 simp only [Yt,Zf4,List.length_set]
 rw [Zdx _ ls hs h hn,ZhO (by rw [Zfm];exact hp)]
theorem ZeW (hp:p < h.length):∀ r:Res,X4 (h.set p b) r=Zf4 p b (X4 h r)
 | none=>rfl
 | some (r,[])=>by cases r<;>rfl
 | some (r,k::hs)=>by
  have many:Yt (h.set p b) [] r (k::hs)=Zf4 p b (Yt h [] r (k::hs)):=WB hp (by simp) _ _
  unfold X4
  split
  ·rename_i e;simp at e
  ·rename_i n b' e
   simp only [Option.some.injEq,Prod.mk.injEq,List.cons.injEq] at e
   obtain ⟨rfl,rfl,rfl⟩:=e
   split
   ·simp only [Zf4,List.length_set];rw [ZhO hp]
   ·rfl
  ·rename_i _ e
   simp only [Option.some.injEq,Prod.mk.injEq,List.cons.injEq] at e
   obtain ⟨rfl,rfl,rfl⟩:=e
   exact many
  ·rename_i e;simp at e
theorem ZhW (hp:p < h.length) {ls:List Nat} (hn:p∉ls):∀ r:Res,QA (h.set p b) ls r=Zf4 p b (QA h ls r)
 | none=>rfl
 | some (r,hs)=>by
  simp only [QA,List.length_set]
  rw [Zdx _ ls hs h hn]
  split
  ·rfl
  ·split
   ·split
    ·split
     ·simp only [Zf4];rw [ZhO (by rw [Zfm];exact hp)]
     ·exact WB hp hn _ _
    ·exact WB hp hn _ _
   ·split
    ·exact WB hp hn _ _
    ·rfl
theorem Zd2 {F:Tk→Res} (hp:p < h.length) (hb:∀ (l:Nat) (k:Blk),h[l]? = some k→p∉Xj k) (g:FuncId) (args:List AV) (ha:p∉Zk args) (o:Option (List AV)):XQ F g (h.set p b) args o=Zf4 p b (XQ F g h args o):=by
 unfold XQ
 split
 ·exact ZeW hp _
 ·rw [←Jc args (ZaY ha)]
  split
  ·rename_i args' hc
   have hn':p∉Zk args':=fun hx=>ha (J9 _ _ hc p hx)
   obtain ⟨h1,h2⟩:=Q6 (b:=b) hb 100 (Zk args') [] hn' (by simp)
   rw [h1]
   unfold Jy
   split
   ·rw [Ziu _ _ h2]
    split
    ·split
     ·exact ZhW hp h2 _
     ·rfl
    ·rfl
   ·rfl
  ·rfl
theorem Zk3 {nl:FuncId→Bool} {F:Tk→Res} (hp:p < h.length) (hb:∀ (l:Nat) (k:Blk),h[l]? = some k→p∉Xj k) (args:List AV) (f:AV) (ha:p∉Zk args) (hf:p∉Zm f):Yv nl F (h.set p b) args f=Zf4 p b (Yv nl F h args f):=by
 cases f with
 | fn g caps =>
  have hn:p∉Zk (args++caps):=fun hx=>by
   rw [WE] at hx
   exact hx.elim ha hf
  simp only [Yv]
  rw [←Zfh (ZaY hn)]
  exact Zd2 hp hb _ _ hn _
 | bnd g fs =>
  have hn:p∉Zk (fs++args):=fun hx=>by
   rw [WE] at hx
   exact hx.elim hf ha
  simp only [Yv]
  rw [←Zfh (ZaY hn)]
  exact Zd2 hp hb _ _ hn _
 | _=>rfl
theorem Zg9 (hb:∀ (l:Nat) (k:Blk),h[l]? = some k→p∉Xj k) (args:List AV) (f:AV) (ha:p∉Zk args) (hf:p∉Zm f):Y7 (h.set p b) args f=Y7 h args f∧p∉Y7 h args f:=by
 have one:∀ l:List AV,p∉Zk l→(match Yk (h.set p b) l with
   | some _=>[]
   | none=>match WC (h.set p b) l with
    | some l=>YO (h.set p b) 100 (Zk l) []
    | none=>[])=(match Yk h l with
   | some _=>[]
   | none=>match WC h l with
    | some l=>YO h 100 (Zk l) []
    | none=>[])∧p∉(match Yk h l with
   | some _=>[]
   | none=>match WC h l with
    | some l=>YO h 100 (Zk l) []
    | none=>[]):=fun l hn=>by
  rw [←YU l (ZaY hn),←Jc l (ZaY hn)]
  split
  ·simp
  ·split
   ·rename_i l' hc
    exact Q6 hb 100 _ [] (fun hx=>hn (J9 _ _ hc p hx)) (by simp)
   ·simp
 cases f with
 | fn g caps=>exact one _ (fun hx=>((WE _ _ _).1 hx).elim ha hf)
 | bnd g fs=>exact one _ (fun hx=>((WE _ _ _).1 hx).elim hf ha)
 | _=>exact ⟨rfl,by simp [Y7]⟩
theorem Zkx {h':Zd}:∀ T:List Nat,p∉T→chg (h.set p b) (h'.set p b) T=chg h h' T
 | [],_=>rfl
 | l::T,hn=>by
  simp only [List.mem_cons,not_or] at hn
  have e:¬p=l:=hn.1
  simp only [chg]
  rw [List.getElem?_set_ne e,List.getElem?_set_ne e,Zkx T hn.2]
end
end Go.Ab
