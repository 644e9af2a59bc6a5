/- What is proved: from a row's listed variables to what the evaluator asks; how a contract of the evaluator at a law gives the row's. What is proved: arguments that are slices of integers, strings, integers: from the row's reading to the evaluator's and back. Conditions: none. -/
import Derived.Test.YtddclolilenlkaaGreatDoorMX4
import Derived.Test.YtddclolilenlkaaGreatDoorMC
import Derived.Test.YtddclolilenlkaaGreatDoorRows
import Derived.Test.YtddclolilenlkaaGreatDoorU7
import Derived.Test.YtddclolilenlkaaGreatDoorCards
import Derived.ProofKit
import Derived.OpenShut
import Derived.Lay
import Derived.MakeChecks
import Derived.Deep.Strs
import Derived.Deep.DeepHandedRow
import Derived.Stop.LaidErr
import Derived.Lib.LaidTab
import Derived.SevenTiedAt
import Derived.ChangeSlices
set_option linter.unusedSimpArgs false
set_option linter.unusedVariables false
namespace Go.Ab
open Go Go.Proofs Go.Deep Go.ChangeShapes Go.WideShapes Go.ChangeAt Go.RowKit
set_option maxRecDepth 100000
variable{W W' w:World}{H:Type}{v:Value}{base:Nat}{ps:List MemPlace}
theorem Jb{x:String×DataW Unit}{r:List (String×DataW Unit)}(h:laidMet Tryz.prog (x::r) w):laidMet Tryz.prog r w:=laidMet.tail h
theorem Zqe{n:String}{r:List (String×DataW Unit)}{g ti:Nat}{ms:Array (String×TypeId)}{d:DataW Unit}(e:Tryz.prog.globalNamed n=some g)(i:(Tryz.prog.globals[g]?).map (·.type)=some ti)(hi:Tryz.prog.underlying ti=some (.interface ms))
  (h:laidMet Tryz.prog ((n,.iface "*errors.errorString" d)::r) w):Zlx w g:=by
 obtain⟨ps,⟨g',t',cs,f,p,q,b,c,a,j,_,_⟩,_⟩:=h;obtain rfl:=Ux (e.symm.trans b);obtain rfl:=Ux (i.symm.trans c);obtain⟨_,u,v,k,_,m⟩:=iface_of_trod hi j;have:=World.var?_cell e a 0;have l:cs[0]?=some (.iface u v):=by rw[←U4,k];rfl
 exact⟨_,this.trans l,.inr ⟨_,v,rfl⟩⟩
theorem ZBp(h:laidMetH Tryz.prog YtddclolilenlkaaGreatDoor.Rows.changeChecksRow.laid w)(hs:w.ShapedOpen Tryz.prog):Lay w:=by
 rw[MakeChecks.laidMetH_plain _ _ _ (by kernel_rfl)]at h;have d:=Tryz.laysM155.s1_3 w hs;have a:=Jb (Jb h);have b:=Jb (Jb (Jb a));have c:=Jb b;have f:=Jb c;refine⟨d,⟨Zqe (ti:=182) (by kernel_rfl) (by kernel_rfl) Tryz.underlying182 b,Zqe (ti:=182) (by kernel_rfl) (by kernel_rfl) Tryz.underlying182 c⟩,?_,?_⟩
 ·exact Lib.tabIs_of_head (g:=7) (t:=390) (e:=219) (n:=20) (zs:=Lib.pow10Tab) (by kernel_rfl) (by kernel_rfl) (by kernel_rfl) (by kernel_rfl) (by kernel_rfl) (by kernel_rfl) a
 exact Lib.tabIs_of_head (g:=1) (t:=337) (e:=5) (n:=256) (zs:=Lib.asciiSpaceTab) (by kernel_rfl) (by kernel_rfl) (by kernel_rfl) (by kernel_rfl) (by kernel_rfl) (by kernel_rfl) f
theorem ZjN{W:World}(h:Below W.heap.size W W')(may:MemPlace→Prop):W.keptBut W' may :=
 ⟨h.os,h.output,fun i hi=>by rw[h.block i hi];exact(World.keptBut_refl W may).2.2 i hi⟩
theorem ZjB{enc:TypeId×Value→H}{P:Program}{f:Func}{s:ChangeSpec}{apart l c m:Bool}{W:World}{args:Array Value}{o q:List (DataW H)}{a u y:List MemPlace}
  (D:DataW.Whole enc P f.params.toList s.vars apart W args.toList o q a)
  (i:∀(b:Nat) (n:Nat→Bool) (G:Bool),DataW.TrodAll enc P W' b n G f.resultTypes.toList (v.resultList f.resultTypes.size) (s.fn H (o++q)).results [])
  (d:∀n:Nat→Bool,(∀p∈a,n p.block=true)→DataW.TrodAll enc P W' 0 n true f.params.toList args.toList (s.fn H (o++q)).args u)
  (e:∀n:Nat→Bool,(∀p∈a,n p.block=true)→DataW.TrodVars enc P W' n s.vars (s.fn H (o++q)).vars y)
  (g:a=u++y) (F:Below W.heap.size W W')
  (E:∀(j:Nat) (t:TypeId) (r:Value),f.resultTypes[j]?=some t→(v.resultList f.resultTypes.size)[j]?=some r→Value.okWide P W' .any 0 t r) :
  s.post enc P f apart l c m W args v W':=by
 have A:=D.lt;have k:∀p∈a,(fun b=>decide (b<W.heap.size)) p.block=true:=fun p h=>by simpa using A p h
 refine⟨o,q,a,[],u,y,D,i _ _ _,d _ k,e _ k,World.keptBut_mono (fun p h=>⟨h,?_⟩) (ZjN F (·∈a)),fun _=>?_⟩
 ·rw[g,Vg]at h;exact Or.inr h
 obtain⟨_,_,_,_,_,J,L⟩:=D;refine⟨E,_,_,([]++u)++y,⟨[]++u,y,trodAll_append (d _ (fun _ _=>rfl)) (i _ _ _),e _ (fun _ _=>rfl),rfl,?_,?_⟩,?_⟩
 ·intro b B h;have C:MemPlace.cell b B∈a:=by rw[g];simpa using h
  rw[World.frozen?_of_block (F.block b (A _ C))];exact J b B C
 ·intro M;have:=L M;rw[g]at this;simpa using this
 intro p h _;rw[g];simpa using h
theorem ZCx{f:Nat}{args:List AV}{vs:List Value}{r:AV}{h':Za}(e:R K (.call f args [])=some (r,h'))(a:∀w',(∀b,b<W.heap.size→w'.heap[b]?=W.heap[b]?)→Lay w')
  (d:∀μ:Mp Lay,RepL μ [] W args vs):Calls Tryz.prog f vs.toArray W fun e w'=>∃v μ',e=.returned v∧Below W.heap.size W w'∧Rep (μ':Mp Lay) h' w' r v:=by
 have g:=(Zrb ZDk e).2;let μ:Mp Lay:={map:=fun _=>none,out:=fun _ _=>False,still:=fun b=>b<W.heap.size};have i:Rel μ [] W:={inj:=fun l _ _ h=>by simp at h,blk:=fun l k h=>by simp at h,apart:=fun l _ _ h=>by simp at h,old:=fun _ _ h=>h.elim,still:=fun b h=>⟨h,fun l a=>by simp at a⟩,base:=a};refine(g μ W vs i (d μ)).mono ?_;rintro e w' ⟨v,μ',rfl,_,c,j⟩;exact⟨v,μ',rfl,⟨c.os,c.tape,c.output,c.size,fun b m=>(c.outside b m (fun l a=>by simp at a)).1⟩,j⟩
theorem Zti{w':World}(h:Lay W)(p:∀b,b<W.heap.size→w'.heap[b]?=W.heap[b]?):Lay w':=by
 have a:∀(b o:Nat) (v:Value),W.cell? ⟨b,o,none⟩=some v→w'.cell? ⟨b,o,none⟩=some v:=by intro b o v e;have c:b<W.heap.size:=ZeY e;simp only[World.cell?]at e ⊢;rw[p b c];exact e
 obtain⟨⟨m,r⟩,⟨⟨s,d,f⟩,⟨t,i,j⟩⟩,k,l⟩:=h;have q:∀(n:String) (cs:Array Value),W.var? Tryz.prog n=some cs→w'.var? Tryz.prog n=some cs:=by
  intro n cs e;simp only[World.var?,Option.bind_eq_some_iff]at e ⊢;obtain⟨g,u,e⟩:=e;refine⟨g,u,?_⟩;have c:g<W.heap.size:=by
   rcases Sc g W.heap.size with h|h
   ·exact h
   rw[Uz h]at e;simp at e
  rw[p g c];exact e
 exact⟨⟨m,a _ _ _ r⟩,⟨⟨s,a _ _ _ d,f⟩,⟨t,a _ _ _ i,j⟩⟩,q _ _ k,q _ _ l⟩
theorem ZcM{enc:TypeId×Value→H}{P:Program}{a:Nat→Bool}{b:Bool}{t:TypeId}{s:ByteArray}(m:Nat)(c:P.underlying t=some .string)(d:s.size≤maxLen):DataW.trod enc P W base a b (m+1) t [.string s]=some (.lit (.string s.data.toList),[]):=by simp[DataW.trod,c,d]
theorem Zpt{enc:TypeId×Value→H}{D:Nat→Bool}{d:DataW H} 
  (e:Value.okWide Tryz.prog W .any base 33 v) (h:DataW.Trod enc Tryz.prog W 0 D true 33 v d ps) :
  ∃(k n:Int) (s:List UInt8),v=.agg #[.int .i64 k,.int .i64 n,.string ⟨s.toArray⟩]∧ps=[]∧s.length≤maxLen∧(∀(W':World) (b:Nat) (f:Nat→Bool) (j:Bool),DataW.Trod enc Tryz.prog W' b f j 33 v d []):=by
 have i:Tryz.prog.cellsOf 3=1:=by kernel_rfl
 have l:Tryz.prog.cellsOf 9=1:=by kernel_rfl
 have m:Tryz.prog.cellsOf 33=3:=by kernel_rfl
 unfold Value.okWide at e;rw[Tryz.underlying33]at e;obtain⟨cs,rfl,g,_⟩:=e;rw[m]at g;obtain⟨o,h⟩:=h;obtain⟨y0,y1,y2,n,p,q,r,t,h2⟩:=trod_struct3 Tryz.underlying33 h;obtain⟨cs⟩:=cs
 match cs,g with
 |[a,b,c],_ =>
  simp only[Value.cells,List.drop,List.take,i,l]at r t h2;obtain⟨u,y,E,w0⟩:=DataW.trod_int Tryz.underlying3 r;obtain⟨A,B,F,w1⟩:=DataW.trod_int Tryz.underlying3 t;obtain⟨s,C,G,w2⟩:=DataW.trod_string Tryz.underlying9 h2;simp only[Su,PD]at y B C;subst y B C E F G;simp only[Vp,Vv,Vi]at p;obtain⟨rfl,rfl⟩:=p;obtain⟨⟨s⟩⟩:=s;refine⟨u,A,s,rfl,rfl,w2,fun W' b f j=>⟨2,?_⟩⟩;exact trod_struct3_mk (y0:=(.lit (.int .i64 u),[])) (y1:=(.lit (.int .i64 A),[])) (y2:=(.lit (.string s),[])) Tryz.underlying33 (by rw[m];rfl)
   (by simpa[i,Value.cells]using trod_int_mk 0 Tryz.underlying3 w0) (by simpa[i,Value.cells]using trod_int_mk 0 Tryz.underlying3 w1)
   (by simpa[l,Value.cells]using ZcM 0 Tryz.underlying9 w2)
theorem Zrz{μ:Mp Lay}{h:Za}(k n:Int)(s:List UInt8):Rep μ h W (.agg [.int .i64 k,.int .i64 n,.str s]) (.agg #[.int .i64 k,.int .i64 n,.string ⟨s.toArray⟩]) :=
 ⟨[.int .i64 k,.int .i64 n,.string ⟨s.toArray⟩],rfl,_,_,rfl,rfl,_,_,rfl,rfl,_,_,rfl,rfl,rfl⟩
end Go.Ab
namespace Go.Ab
open Go Go.Proofs Go.Deep Go.ChangeShapes Go.WideShapes Go.ChangeAt Go.RowKit
set_option maxRecDepth 100000
variable{W W' w:World}{H:Type}{v:Value}{base:Nat}{ps:List MemPlace}
structure ArgOk{H:Type}(enc:TypeId×Value→H)(W:World)(t:Nat)(v:Value)(a:AV)(d:DataW H)(ps:List MemPlace):Prop where
 rep:∀μ:Mp Lay,(∀b o,¬μ.out b o)→Rep μ [] W a v
 kept:∀(W':World) (sp:Nat→Bool),(∀b,b<W.heap.size→W'.heap[b]?=W.heap[b]?)→(∀p∈ps,sp p.block=true)→DataW.Trod enc Tryz.prog W' 0 sp true t v d ps
theorem Zr7{f:Nat}{args:List AV}{vs:List Value}{r:AV}{h':Za}(e:R K (.call f args [])=some (r,h'))(a:∀w',(∀b,b<W.heap.size→w'.heap[b]?=W.heap[b]?)→Lay w')
  (d:∀μ:Mp Lay,(∀b o,¬μ.out b o)→RepL μ [] W args vs):Calls Tryz.prog f vs.toArray W fun e w'=>∃v μ',e=.returned v∧Below W.heap.size W w'∧Rep (μ':Mp Lay) h' w' r v:=by
 have g:=(Zrb ZDk e).2;let μ:Mp Lay:={map:=fun _=>none,out:=fun _ _=>False,still:=fun b=>b<W.heap.size};have i:Rel μ [] W:={inj:=fun l _ _ h=>by simp at h,blk:=fun l k h=>by simp at h,apart:=fun l _ _ h=>by simp at h,old:=fun _ _ h=>h.elim,still:=fun b h=>⟨h,fun l a=>by simp at a⟩,base:=a};refine(g μ W vs i (d μ fun _ _ h=>h)).mono ?_;rintro e w' ⟨v,μ',rfl,_,c,j⟩;exact⟨v,μ',rfl,⟨c.os,c.tape,c.output,c.size,fun b m=>(c.outside b m (fun l a=>by simp at a)).1⟩,j⟩
theorem ZB9{enc:TypeId×Value→H}{d:DataW H} 
  (a:Value.okWide Tryz.prog W .any base 33 v) (h:DataW.Trod enc Tryz.prog W 0 (fun _=>true) true 33 v d ps) :
  ∃(k n:Int) (s:List UInt8),s.length≤maxLen∧ArgOk enc W 33 v (.agg [.int .i64 k,.int .i64 n,.str s]) d ps:=by
 obtain⟨k,n,s,rfl,rfl,b,c⟩:=Zpt a h;exact⟨k,n,s,b,fun μ _=>Zrz k n s,fun W' e _ _=>c W' 0 e true⟩
theorem ZDv{enc:TypeId×Value→H}{d:DataW H} 
  (a:Value.okWide Tryz.prog W .any base 3 v) (h:DataW.Trod enc Tryz.prog W 0 (fun _=>true) true 3 v d ps) :
  ∃n:Int,ArgOk enc W 3 v (.int .i64 n) d ps:=by
 unfold Value.okWide at a;rw[Tryz.underlying3]at a;obtain⟨b,h⟩:=h
 match v,a,h with
 |.int k n,a,h =>
  obtain⟨z,e,f,w⟩:=DataW.trod_int Tryz.underlying3 h;simp only[Value.cells,Su,PD]at e;obtain⟨rfl,rfl⟩:=PY f;rw[e];exact⟨z,fun μ _=>rfl,fun W' c _ _=>⟨1,by simpa[Value.cells]using trod_int_mk 0 Tryz.underlying3 w⟩⟩
theorem ZAi{enc:TypeId×Value→H}{d:DataW H} 
  (a:Value.okWide Tryz.prog W .any base 9 v) (h:DataW.Trod enc Tryz.prog W 0 (fun _=>true) true 9 v d ps) :
  ∃s:List UInt8,s.length≤maxLen∧d=.lit (.string s)∧ArgOk enc W 9 v (.str s) d ps:=by
 unfold Value.okWide at a;rw[Tryz.underlying9]at a;obtain⟨b,h⟩:=h
 match v,a,h with
 |.string s,a,h =>
  obtain⟨z,e,f,w⟩:=DataW.trod_string Tryz.underlying9 h;simp only[Value.cells,Su,PD,Value.string.injEq]at e;subst e;obtain⟨rfl,rfl⟩:=PY f;obtain⟨⟨s⟩⟩:=s;exact⟨s,w,rfl,fun μ _=>rfl,fun W' c _ _=>⟨1,by simpa[Value.cells]using ZcM 0 Tryz.underlying9 w⟩⟩
theorem Zr9{W:World}(c:∀b,b<W.heap.size→W'.heap[b]?=W.heap[b]?){a:Addr}(h:W.cell? a=some v):W'.cell? a=some v:=by
 have d:a.block<W.heap.size:=by
  rcases Sc a.block W.heap.size with h'|h'
  ·exact h'
  simp only[World.cell?,Uz h']at h;simp at h
 simp only[World.cell?]at h ⊢;rw[c _ d];exact h
theorem Zu6{enc:TypeId×Value→H}{d:DataW H} 
  (f:Value.okWide Tryz.prog W .any base 22 v) (h:DataW.Trod enc Tryz.prog W 0 (fun _=>true) true 22 v d ps) :
  ∃L:List Int,L.length≤maxLen∧ArgOk enc W 22 v (.rows (L.map fun x=>[.int .i64 x])) d ps:=by
 have M:Tryz.prog.cellsOf 3=1:=by kernel_rfl
 unfold Value.okWide at f;rw[Tryz.underlying22]at f;obtain⟨q,h⟩:=h
 match v,f,h with
 |.slice base len cap,f,h =>
  rcases open_ints Tryz.underlying22 Tryz.underlying3 M h with⟨e,A⟩|⟨a,N,O,zs,e,Q,t,u,B,A,c,C⟩
  ·obtain⟨rfl,rfl⟩:=PY A;simp only[Value.cells,Su,PD,SE]at e;obtain⟨rfl,rfl,rfl⟩:=e;refine⟨[],by simp,fun μ _=>Rep.pure _ _ ⟨none,0,rfl,by simp,.inl rfl⟩,fun W' P _ _=>?_⟩;obtain⟨n,X⟩:∃n,q=n+1:=by
    cases q with
    |zero=>simp[DataW.trod]at h
    |succ n=>exact⟨n,rfl⟩
   refine⟨1,?_⟩;rw[DataW.trod_step];unfold DataW.trodStep;simp only[Tryz.underlying22,Value.cells]
  obtain⟨rfl,rfl⟩:=PY A;simp only[Value.cells,Su,PD,SE]at e;obtain⟨rfl,rfl,rfl⟩:=e;simp only[V7]at B;have p:(zs.take len).length=len:=by rw[Sv];omega
  refine⟨zs.take len,by rw[p];omega,fun μ ho=>Rep.pure _ _ ⟨some a,cap,by rw[Vd,p],by rw[Vd,p];exact t,?_⟩,fun W' P S j=>⟨2,?_⟩⟩
  ·by_cases T:len=0
   ·left;simp[T]
   right;have j:a.spot=none:=by
    have m:=c 0 (by omega);have D:a.add 0=a:=by simp[Addr.add]
    rw[D]at m;simp only[World.cell?]at m;split at m
    ·split at m
     ·simp at m
     rename_i E;simpa using E
    simp at m
   refine⟨a.block,a.off,1,?_,PRows.of_at _ _ fun i row g=>?_⟩
   ·obtain⟨b,o,s⟩:=a;simp only at j;rw[j]
   rw[Vj]at g;cases r:(zs.take len)[i]? with
   |none=>simp[r]at g
   |some z =>
    simp only[r,Ue,Va]at g;subst g;have hi:i<len:=by have:=(Vb.1 r).1;rw[p]at this;exact this
    have U:=c i (by omega);have F:zs.getD i 0=z:=by rw[List.getElem?_take_of_lt hi]at r;simp[List.getD,r]
    have D:a.add i=⟨a.block,a.off+i*1,none⟩:=by
     obtain⟨b,o,s⟩:=a;simp only at j;subst j;by_cases y:i=0
     ·simp[Addr.add,y]
     simp[Addr.add,y]
    refine⟨rfl,rfl,⟨.int .i64 z,by rw[←D,U,F],fun G=>?_,rfl⟩,trivial⟩;rcases G with G|⟨l,k,r,_⟩
    ·exact ho _ _ G
    simp at r
  refine shut_ints 0 Tryz.underlying22 Tryz.underlying3 M Q t u ?_ (fun i hi=>Zr9 S (c i hi)) C;by_cases J:cap=0
  ·have:len=0:=by omega
   rw[B,J,this];simp
  have hs:P a.block=true:=j (.cell a.block (a.off+0)) (by unfold MemPlace.row;exact VE.2 ⟨0,S5.2 (by omega),rfl⟩);rw[Vr hs,B]
end Go.Ab
