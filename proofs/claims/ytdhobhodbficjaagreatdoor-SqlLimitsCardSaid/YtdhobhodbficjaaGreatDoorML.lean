/- What is proved: from a row's listed variables to what the evaluator asks; how a contract of the evaluator at a law gives the row's. What is proved: arguments that are slices of integers, strings, integers: from the row's reading to the evaluator's and back. Conditions: none. -/
import Derived.Test.YtdhobhodbficjaaGreatDoorMX4
import Derived.Test.YtdhobhodbficjaaGreatDoorMC
import Derived.Test.YtdhobhodbficjaaGreatDoorRows
import Derived.Test.YtdhobhodbficjaaGreatDoorU7
import Derived.Test.YtdhobhodbficjaaGreatDoorCards
import Derived.ProofKit
import Derived.OpenShut
import Derived.Lay
import Derived.MakeChecks
import Derived.Deep.Strs
import Derived.Deep.DeepHandedRow
import Derived.Stop.LaidErr
import Derived.Lib.LaidTab
import Derived.SevenTiedAt
import Derived.ChangeSlices
set_option linter.unusedSimpArgs false
set_option linter.unusedVariables false
namespace Go.Ab
open Go Go.Proofs Go.Deep Go.ChangeShapes Go.WideShapes Go.ChangeAt Go.RowKit
set_option maxRecDepth 100000
theorem laid_tail {x:String×DataW Unit} {r:List (String×DataW Unit)} {w:World} (h:laidMet Tryz.prog (x::r) w):laidMet Tryz.prog r w:=laidMet.tail h
theorem errCell {n:String} {r:List (String×DataW Unit)} {w:World} {g ti:Nat} {ms:Array (String×TypeId)} {d:DataW Unit} (hg:Tryz.prog.globalNamed n=some g) (ht:(Tryz.prog.globals[g]?).map (·.type)=some ti) (hi:Tryz.prog.underlying ti=some (.interface ms))
  (h:laidMet Tryz.prog ((n,.iface "*errors.errorString" d)::r) w):ErrCell w g:=by
 obtain ⟨ps,⟨g',t',cs,fuel,p,q,hg',ht',hvar,hd,_,_⟩,_⟩:=h
 obtain rfl:=Option.some.inj (hg.symm.trans hg')
 obtain rfl:=Option.some.inj (ht.symm.trans ht')
 obtain ⟨_,u,v,hc,_,hp⟩:=iface_of_trod hi hd
 have:=World.var?_cell hg hvar 0
 have h0:cs[0]? = some (.iface u v):=by rw [←Array.getElem?_toList,hc];rfl
 exact ⟨_,this.trans h0,.inr ⟨_,v,rfl⟩⟩
/-- The rows' list gives what the evaluator asks. -/
theorem lay_of {w:World} (h:laidMetH Tryz.prog YtdhobhodbficjaaGreatDoor.Rows.sqlLimitsRow.laid w) (hs:w.ShapedOpen Tryz.prog):Lay w:=by
 rw [MakeChecks.laidMetH_plain _ _ _ (by kernel_rfl)] at h
 have hm:=Tryz.laysM155.s1_3 w hs
 have h1:=laid_tail h
 have h2:=laid_tail h1
 have h7:=laid_tail (laid_tail (laid_tail (laid_tail (laid_tail h2))))
 refine ⟨hm,⟨errCell (ti:=70) (by kernel_rfl) (by kernel_rfl) Tryz.underlying70 h,errCell (ti:=70) (by kernel_rfl) (by kernel_rfl) Tryz.underlying70 h1⟩,?_,?_⟩
 ·exact Lib.tabIs_of_head (g:=5) (t:=510) (e:=102) (n:=20) (zs:=Lib.pow10Tab) (by kernel_rfl) (by kernel_rfl) (by kernel_rfl) (by kernel_rfl) (by kernel_rfl) (by kernel_rfl) h2
 ·exact Lib.tabIs_of_head (g:=1) (t:=468) (e:=5) (n:=256) (zs:=Lib.asciiSpaceTab) (by kernel_rfl) (by kernel_rfl) (by kernel_rfl) (by kernel_rfl) (by kernel_rfl) (by kernel_rfl) h7
theorem kept_of_below {W W':World} (h:Below W.heap.size W W') (may:MemPlace→Prop):W.keptBut W' may :=
 ⟨h.os,h.output,fun i hi=>by rw [h.block i hi];exact (World.keptBut_refl W may).2.2 i hi⟩
theorem post_of_below {H:Type} {enc:TypeId×Value→H} {P:Program} {f:Func} {s:ChangeSpec} {apart fresh handsOn again:Bool} {W W':World} {args:Array Value} {v:Value} {ds gs:List (DataW H)} {before pa pv:List MemPlace}
  (hW:DataW.Whole enc P f.params.toList s.vars apart W args.toList ds gs before)
  (hres:∀ (b:Nat) (sp:Nat→Bool) (hd:Bool),DataW.TrodAll enc P W' b sp hd f.resultTypes.toList (v.resultList f.resultTypes.size) (s.fn H (ds++gs)).results [])
  (hargs:∀ sp:Nat→Bool,(∀ p∈before,sp p.block=true)→DataW.TrodAll enc P W' 0 sp true f.params.toList args.toList (s.fn H (ds++gs)).args pa)
  (hvars:∀ sp:Nat→Bool,(∀ p∈before,sp p.block=true)→DataW.TrodVars enc P W' sp s.vars (s.fn H (ds++gs)).vars pv)
  (hps:before=pa++pv) (hb:Below W.heap.size W W')
  (hok:∀ (j:Nat) (t:TypeId) (r:Value),f.resultTypes[j]? = some t→(v.resultList f.resultTypes.size)[j]? = some r→Value.okWide P W' .any 0 t r) :
  s.post enc P f apart fresh handsOn again W args v W':=by
 have hlt:=hW.lt
 have hold:∀ p∈before,(fun b=>decide (b < W.heap.size)) p.block=true:=fun p hp=>by simpa using hlt p hp
 refine ⟨ds,gs,before,[],pa,pv,hW,hres _ _ _,hargs _ hold,hvars _ hold,World.keptBut_mono (fun p hp=>⟨hp,?_⟩) (kept_of_below hb (·∈before)),fun _=>?_⟩
 ·rw [hps,List.mem_append] at hp
  exact Or.inr hp
 ·obtain ⟨_,_,_,_,_,hz,hn⟩:=hW
  refine ⟨hok,_,_,([]++pa)++pv,⟨[]++pa,pv,trodAll_append (hargs _ (fun _ _=>rfl)) (hres _ _ _),hvars _ (fun _ _=>rfl),rfl,?_,?_⟩,?_⟩
  ·intro b off hp
   have hp':MemPlace.cell b off∈before:=by rw [hps];simpa using hp
   rw [World.frozen?_of_block (hb.block b (hlt _ hp'))]
   exact hz b off hp'
  ·intro ha
   have:=hn ha
   rw [hps] at this
   simpa using this
  ·intro p hp _
   rw [hps]
   simpa using hp
/-- A contract of the evaluator without memory, at a world. -/
theorem calls_of {f:Nat} {args:List AV} {vs:List Value} {W:World} {r:AV} {h':Heap} (e:R K (.call f args [])=some (r,h')) (hl:∀ w',(∀ b,b < W.heap.size→w'.heap[b]? = W.heap[b]?)→Lay w')
  (ha:∀ μ:Mp Lay,RepL μ [] W args vs):Calls Tryz.prog f vs.toArray W fun e w'=>∃ v μ',e=.returned v∧Below W.heap.size W w'∧Rep (μ':Mp Lay) h' w' r v:=by
 have hc:=(R_sound K_ok e).2
 let μ:Mp Lay:={ map:=fun _=>none,out:=fun _ _=>False,still:=fun b=>b < W.heap.size }
 have hr:Rel μ [] W:={ inj:=fun l _ _ h=>by simp at h,blk:=fun l k h=>by simp at h,apart:=fun l _ _ h=>by simp at h,old:=fun _ _ h=>h.elim,still:=fun b h=>⟨h,fun l hl=>by simp at hl⟩,base:=hl }
 refine (hc μ W vs hr (ha μ)).mono ?_
 rintro e w' ⟨v,μ',rfl,_,ex,hv⟩
 exact ⟨v,μ',rfl,⟨ex.os,ex.tape,ex.output,ex.size,fun b hb=>(ex.outside b hb (fun l hl=>by simp at hl)).1⟩,hv⟩
theorem lay_kept {W w':World} (h:Lay W) (hk:∀ b,b < W.heap.size→w'.heap[b]? = W.heap[b]?):Lay w':=by
 have hc:∀ (b o:Nat) (v:Value),W.cell? ⟨b,o,none⟩=some v→w'.cell? ⟨b,o,none⟩=some v:=by
  intro b o v e
  have hb:b < W.heap.size:=cell_lt e
  simp only [World.cell?] at e ⊢
  rw [hk b hb];exact e
 obtain ⟨⟨m,hm⟩,⟨⟨e1,he1,hi1⟩,⟨e2,he2,hi2⟩⟩,ht1,ht2⟩:=h
 have hv:∀ (n:String) (cs:Array Value),W.var? Tryz.prog n=some cs→w'.var? Tryz.prog n=some cs:=by
  intro n cs e
  simp only [World.var?,Option.bind_eq_some_iff] at e ⊢
  obtain ⟨g,hg,e⟩:=e
  refine ⟨g,hg,?_⟩
  have hb:g < W.heap.size:=by
   rcases Nat.lt_or_ge g W.heap.size with h | h
   ·exact h
   ·rw [Array.getElem?_eq_none h] at e;simp at e
  rw [hk g hb];exact e
 exact ⟨⟨m,hc _ _ _ hm⟩,⟨⟨e1,hc _ _ _ he1,hi1⟩,⟨e2,hc _ _ _ he2,hi2⟩⟩,hv _ _ ht1,hv _ _ ht2⟩
theorem trod_string_mk {H:Type} {enc:TypeId×Value→H} {P:Program} {W:World} {base:Nat} {sp:Nat→Bool} {hd:Bool} {t:TypeId} {s:ByteArray} (m:Nat) (ht:P.underlying t=some .string) (hw:s.size≤maxLen):DataW.trod enc P W base sp hd (m+1) t [.string s]=some (.lit (.string s.data.toList),[]):=by
 simp [DataW.trod,ht,hw]
/-- An argument of the row type. -/
theorem open_value {H:Type} {enc:TypeId×Value→H} {W:World} {base:Nat} {sp:Nat→Bool} {v:Value} {d:DataW H} {ps:List MemPlace}
  (hval:Value.okWide Tryz.prog W .any base 27 v) (h:DataW.Trod enc Tryz.prog W 0 sp true 27 v d ps) :
  ∃ (k n:Int) (s:List UInt8),v=.agg #[.int .i64 k,.int .i64 n,.string ⟨s.toArray⟩]∧ps=[]∧s.length≤maxLen∧(∀ (W':World) (b:Nat) (sp':Nat→Bool) (hd:Bool),DataW.Trod enc Tryz.prog W' b sp' hd 27 v d []):=by
 have c3:Tryz.prog.cellsOf 3=1:=by kernel_rfl
 have c9:Tryz.prog.cellsOf 9=1:=by kernel_rfl
 have cv:Tryz.prog.cellsOf 27=3:=by kernel_rfl
 unfold Value.okWide at hval
 rw [Tryz.underlying27] at hval
 obtain ⟨cs,rfl,hsz,_⟩:=hval
 rw [cv] at hsz
 obtain ⟨fuel,h⟩:=h
 obtain ⟨y0,y1,y2,n,hx,hlen,h0,h1,h2⟩:=trod_struct3 Tryz.underlying27 h
 obtain ⟨cs⟩:=cs
 match cs,hsz with
 | [a,b,c],_ =>
  simp only [Value.cells,List.drop,List.take,c3,c9] at h0 h1 h2
  obtain ⟨k0,e0,f0,w0⟩:=DataW.trod_int Tryz.underlying3 h0
  obtain ⟨k1,e1,f1,w1⟩:=DataW.trod_int Tryz.underlying3 h1
  obtain ⟨s,e2,f2,w2⟩:=DataW.trod_string Tryz.underlying9 h2
  simp only [List.cons.injEq,and_true] at e0 e1 e2
  subst e0 e1 e2 f0 f1 f2
  simp only [Prod.mk.injEq,List.append_nil,List.nil_append] at hx
  obtain ⟨rfl,rfl⟩:=hx
  obtain ⟨⟨s⟩⟩:=s
  refine ⟨k0,k1,s,rfl,rfl,w2,fun W' b sp' hd=>⟨2,?_⟩⟩
  exact trod_struct3_mk (y0:=(.lit (.int .i64 k0),[])) (y1:=(.lit (.int .i64 k1),[])) (y2:=(.lit (.string s),[])) Tryz.underlying27 (by rw [cv];rfl)
   (by simpa [c3,Value.cells] using trod_int_mk 0 Tryz.underlying3 w0) (by simpa [c3,Value.cells] using trod_int_mk 0 Tryz.underlying3 w1)
   (by simpa [c9,Value.cells] using trod_string_mk 0 Tryz.underlying9 w2)
theorem rep_value {μ:Mp Lay} {h:Heap} {W:World} (k n:Int) (s:List UInt8):Rep μ h W (.agg [.int .i64 k,.int .i64 n,.str s]) (.agg #[.int .i64 k,.int .i64 n,.string ⟨s.toArray⟩]) :=
 ⟨[.int .i64 k,.int .i64 n,.string ⟨s.toArray⟩],rfl,_,_,rfl,rfl,_,_,rfl,rfl,_,_,rfl,rfl,rfl⟩
end Go.Ab
namespace Go.Ab
open Go Go.Proofs Go.Deep Go.ChangeShapes Go.WideShapes Go.ChangeAt Go.RowKit
set_option maxRecDepth 100000
/-- What is known of an argument. -/
structure ArgOk {H:Type} (enc:TypeId×Value→H) (W:World) (t:Nat) (v:Value) (a:AV) (d:DataW H) (ps:List MemPlace):Prop where
 rep:∀ μ:Mp Lay,(∀ b o,¬μ.out b o)→Rep μ [] W a v
 kept:∀ (W':World) (sp:Nat→Bool),(∀ b,b < W.heap.size→W'.heap[b]? = W.heap[b]?)→(∀ p∈ps,sp p.block=true)→DataW.Trod enc Tryz.prog W' 0 sp true t v d ps
theorem calls_of2 {f:Nat} {args:List AV} {vs:List Value} {W:World} {r:AV} {h':Heap} (e:R K (.call f args [])=some (r,h')) (hl:∀ w',(∀ b,b < W.heap.size→w'.heap[b]? = W.heap[b]?)→Lay w')
  (ha:∀ μ:Mp Lay,(∀ b o,¬μ.out b o)→RepL μ [] W args vs):Calls Tryz.prog f vs.toArray W fun e w'=>∃ v μ',e=.returned v∧Below W.heap.size W w'∧Rep (μ':Mp Lay) h' w' r v:=by
 have hc:=(R_sound K_ok e).2
 let μ:Mp Lay:={ map:=fun _=>none,out:=fun _ _=>False,still:=fun b=>b < W.heap.size }
 have hr:Rel μ [] W:={ inj:=fun l _ _ h=>by simp at h,blk:=fun l k h=>by simp at h,apart:=fun l _ _ h=>by simp at h,old:=fun _ _ h=>h.elim,still:=fun b h=>⟨h,fun l hl=>by simp at hl⟩,base:=hl }
 refine (hc μ W vs hr (ha μ fun _ _ h=>h)).mono ?_
 rintro e w' ⟨v,μ',rfl,_,ex,hv⟩
 exact ⟨v,μ',rfl,⟨ex.os,ex.tape,ex.output,ex.size,fun b hb=>(ex.outside b hb (fun l hl=>by simp at hl)).1⟩,hv⟩
theorem arg_value {H:Type} {enc:TypeId×Value→H} {W:World} {base:Nat} {v:Value} {d:DataW H} {ps:List MemPlace}
  (hval:Value.okWide Tryz.prog W .any base 27 v) (h:DataW.Trod enc Tryz.prog W 0 (fun _=>true) true 27 v d ps) :
  ∃ (k n:Int) (s:List UInt8),s.length≤maxLen∧ArgOk enc W 27 v (.agg [.int .i64 k,.int .i64 n,.str s]) d ps:=by
 obtain ⟨k,n,s,rfl,rfl,hl,ho⟩:=open_value hval h
 exact ⟨k,n,s,hl,fun μ _=>rep_value k n s,fun W' sp _ _=>ho W' 0 sp true⟩
theorem arg_int {H:Type} {enc:TypeId×Value→H} {W:World} {base:Nat} {v:Value} {d:DataW H} {ps:List MemPlace}
  (hval:Value.okWide Tryz.prog W .any base 3 v) (h:DataW.Trod enc Tryz.prog W 0 (fun _=>true) true 3 v d ps) :
  ∃ n:Int,ArgOk enc W 3 v (.int .i64 n) d ps:=by
 unfold Value.okWide at hval
 rw [Tryz.underlying3] at hval
 obtain ⟨fuel,h⟩:=h
 match v,hval,h with
 | .int k n,hval,h =>
  obtain ⟨z,e,f,w⟩:=DataW.trod_int Tryz.underlying3 h
  simp only [Value.cells,List.cons.injEq,and_true] at e
  obtain ⟨rfl,rfl⟩:=Prod.mk.inj f
  rw [e]
  exact ⟨z,fun μ _=>rfl,fun W' sp _ _=>⟨1,by simpa [Value.cells] using trod_int_mk 0 Tryz.underlying3 w⟩⟩
theorem arg_string {H:Type} {enc:TypeId×Value→H} {W:World} {base:Nat} {v:Value} {d:DataW H} {ps:List MemPlace}
  (hval:Value.okWide Tryz.prog W .any base 9 v) (h:DataW.Trod enc Tryz.prog W 0 (fun _=>true) true 9 v d ps) :
  ∃ s:List UInt8,s.length≤maxLen∧d=.lit (.string s)∧ArgOk enc W 9 v (.str s) d ps:=by
 unfold Value.okWide at hval
 rw [Tryz.underlying9] at hval
 obtain ⟨fuel,h⟩:=h
 match v,hval,h with
 | .string s,hval,h =>
  obtain ⟨z,e,f,w⟩:=DataW.trod_string Tryz.underlying9 h
  simp only [Value.cells,List.cons.injEq,and_true,Value.string.injEq] at e
  subst e
  obtain ⟨rfl,rfl⟩:=Prod.mk.inj f
  obtain ⟨⟨s⟩⟩:=s
  exact ⟨s,w,rfl,fun μ _=>rfl,fun W' sp _ _=>⟨1,by simpa [Value.cells] using trod_string_mk 0 Tryz.underlying9 w⟩⟩
theorem kept_cell {W W':World} (hk:∀ b,b < W.heap.size→W'.heap[b]? = W.heap[b]?) {a:Addr} {v:Value} (h:W.cell? a=some v):W'.cell? a=some v:=by
 have hb:a.block < W.heap.size:=by
  rcases Nat.lt_or_ge a.block W.heap.size with h' | h'
  ·exact h'
  ·simp only [World.cell?,Array.getElem?_eq_none h'] at h
   simp at h
 simp only [World.cell?] at h ⊢
 rw [hk _ hb]
 exact h
theorem arg_ints {H:Type} {enc:TypeId×Value→H} {W:World} {base:Nat} {v:Value} {d:DataW H} {ps:List MemPlace}
  (hval:Value.okWide Tryz.prog W .any base 22 v) (h:DataW.Trod enc Tryz.prog W 0 (fun _=>true) true 22 v d ps) :
  ∃ L:List Int,L.length≤maxLen∧ArgOk enc W 22 v (.rows (L.map fun x=>[.int .i64 x])) d ps:=by
 have c3:Tryz.prog.cellsOf 3=1:=by kernel_rfl
 unfold Value.okWide at hval
 rw [Tryz.underlying22] at hval
 obtain ⟨fuel,h⟩:=h
 match v,hval,h with
 | .slice base len cap,hval,h =>
  rcases open_ints Tryz.underlying22 Tryz.underlying3 c3 h with ⟨e,hx⟩ | ⟨a,len',cap',zs,e,hb,hlc,hcap,hz,hx,hcell,hwf⟩
  ·obtain ⟨rfl,rfl⟩:=Prod.mk.inj hx
   simp only [Value.cells,List.cons.injEq,and_true,Value.slice.injEq] at e
   obtain ⟨rfl,rfl,rfl⟩:=e
   refine ⟨[],by simp,fun μ _=>Rep.pure _ _ ⟨none,0,rfl,by simp,.inl rfl⟩,fun W' sp _ _=>?_⟩
   obtain ⟨n,hn⟩:∃ n,fuel=n+1:=by
    cases fuel with
    | zero=>simp [DataW.trod] at h
    | succ n=>exact ⟨n,rfl⟩
   refine ⟨1,?_⟩
   rw [DataW.trod_step]
   unfold DataW.trodStep
   simp only [Tryz.underlying22,Value.cells]
  ·obtain ⟨rfl,rfl⟩:=Prod.mk.inj hx
   simp only [Value.cells,List.cons.injEq,and_true,Value.slice.injEq] at e
   obtain ⟨rfl,rfl,rfl⟩:=e
   simp only [if_true] at hz
   have hlt:(zs.take len).length=len:=by rw [List.length_take];omega
   refine ⟨zs.take len,by rw [hlt];omega,fun μ ho=>Rep.pure _ _ ⟨some a,cap,by rw [List.length_map,hlt],by rw [List.length_map,hlt];exact hlc,?_⟩,fun W' sp hk hsp=>⟨2,?_⟩⟩
   ·by_cases h0:len=0
    ·left;simp [h0]
    ·right
     have hsp:a.spot=none:=by
      have h00:=hcell 0 (by omega)
      have ea:a.add 0=a:=by simp [Addr.add]
      rw [ea] at h00
      simp only [World.cell?] at h00
      split at h00
      ·split at h00
       ·simp at h00
       ·rename_i hns;simpa using hns
      ·simp at h00
     refine ⟨a.block,a.off,1,?_,PRows.of_at _ _ fun i row hrow=>?_⟩
     ·obtain ⟨b,o,s⟩:=a
      simp only at hsp
      rw [hsp]
     ·rw [List.getElem?_map] at hrow
      cases hl:(zs.take len)[i]? with
      | none=>simp [hl] at hrow
      | some z =>
       simp only [hl,Option.map_some,Option.some.injEq] at hrow
       subst hrow
       have hi:i < len:=by
        have:=(List.getElem?_eq_some_iff.1 hl).1
        rw [hlt] at this;exact this
       have hc:=hcell i (by omega)
       have hz':zs.getD i 0=z:=by
        rw [List.getElem?_take_of_lt hi] at hl
        simp [List.getD,hl]
       have ea:a.add i=⟨a.block,a.off+i*1,none⟩:=by
        obtain ⟨b,o,s⟩:=a
        simp only at hsp
        subst hsp
        by_cases hi0:i=0
        ·simp [Addr.add,hi0]
        ·simp [Addr.add,hi0]
       refine ⟨rfl,rfl,⟨.int .i64 z,by rw [←ea,hc,hz'],fun hm=>?_,rfl⟩,trivial⟩
       rcases hm with hm | ⟨l,k,hl,_⟩
       ·exact ho _ _ hm
       ·simp at hl
   ·refine shut_ints 0 Tryz.underlying22 Tryz.underlying3 c3 hb hlc hcap ?_ (fun i hi=>kept_cell hk (hcell i hi)) hwf
    by_cases hc0:cap=0
    ·have:len=0:=by omega
     rw [hz,hc0,this];simp
    ·have hs:sp a.block=true:=hsp (.cell a.block (a.off+0)) (by unfold MemPlace.row;exact List.mem_map.2 ⟨0,List.mem_range.2 (by omega),rfl⟩)
     rw [if_pos hs,hz]
end Go.Ab
