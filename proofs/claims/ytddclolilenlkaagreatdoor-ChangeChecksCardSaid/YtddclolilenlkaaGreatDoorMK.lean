/- What is proved: the configuration of the evaluator at this seat's program, with the library's functions by their contracts. What is proved: that the evaluator's configuration at this seat's program is right. Conditions: none. -/
import Derived.Test.YtddclolilenlkaaGreatDoorMX4
import Derived.Shelf.Strings.SlTrimAscii
import Derived.Test.YtddclolilenlkaaGreatDoorShelf
set_option linter.unusedSimpArgs false
set_option linter.unusedVariables false
namespace Go.Ab
open Go Go.Proofs Go.Proofs.Tryz
variable{M:Nat→Nat→Prop}{w:World}{s:List UInt8}
def Zlx(w:World)(g:Nat):Prop:=∃ev,w.cell? ⟨g,0,none⟩=some ev∧(ev=.nilIface∨∃te pe,ev=.iface te pe)
def Lay(w:World):Prop:=(∃m,w.cell? ⟨0,0,none⟩=some (.int .i64 m))∧(Zlx w 5∧Zlx w 6)∧Lib.TabIs prog w "internal/strconv.uint64pow10" .u64 Lib.pow10Tab∧Lib.TabIs prog w "strings.asciiSpace" .u8 Lib.asciiSpaceTab
def ZBk(n:Int):Bool:=decide (-9223372036854775808≤n)&&decide (n≤9223372036854775807)
def ZcI:List AV→Option AV
 |[.bool b]=>some (.str (Lib.formatBool b))
 |_=>none
def Znm:List AV→Option AV
 |[.int .i64 n]=>if ZBk n=true then some (.str (Lib.itoa n))else none
 |_=>none
def Jz:List AV→Option AV
 |[.str s,.str o,.str n]=>if decide (s.length<4294967281)&&(decide (1≤o.length)&&decide (s.length+Lib.countB ⟨s.toArray⟩ ⟨o.toArray⟩*n.length≤140737488355328))then some (.str (Lib.replaceAll s o n))else none
 |_=>none
def ZdT:List AV→Option AV
 |[.str s,.str p]=>some (.bool (Lib.hasPrefix s p))
 |_=>none
def Zcw:List AV→Option AV
 |[.str s,.str p]=>some (.str (Lib.trimPrefix s p))
 |_=>none
def Zip:List AV→Option AV
 |[.str s,.str p]=>some (.int .i64 (Lib.compareBytes s p))
 |_=>none
def ZBi:List AV→Option AV
 |[.str s,.str p]=>if decide (s.length<4294967281)then some (.tup [.str (Lib.cut s p).1,.str (Lib.cut s p).2.1,.bool (Lib.cut s p).2.2])else none
 |_=>none
def ZlU:List AV→Option AV
 |[.str s]=>if decide (s.length<4294967281)&&s.all (fun b=>decide (b.toNat<128))then some (.rows ((Lib.fields s).map fun l=>[.str l]))else none
 |_=>none
def ZeG:List AV→Option AV
 |[.str s]=>if decide (s.length≤281474976710656)then some (match Lib.atoiAll s with
  |.ok v=>.tup [.int .i64 v,.nili]
  |.range=>.tup [.int .i64 (Lib.atoiSat s),.iface 352 .any]
  |_=>.tup [.int .i64 0,.iface 352 .any])else none
 |_=>none
def Zfr:List AV→Option AV
 |[.str s,.int .i64 c]=>if decide (0≤c)&&(decide (c≤9223372036854775807)&&decide (s.length*c.toNat≤140737488355328))then some (.str (Lib.repeatL s c.toNat))else none
 |_=>none
def ZkO(s:List UInt8):Bool:=s.all fun b=>decide (b.toNat<128)
def Zh9:List (List AV)→Option (List (List UInt8))
 |[]=>some []
 |[.str s]::r=>match Zh9 r with
  |some l=>some (s::l)
  |none=>none
 |_=>none
def Zvm:List AV→Option AV
 |[.rows rs,.str sep]=>match Zh9 rs with
  |some l=>if decide (l.length≤140737488355328)&&decide ((Lib.join l sep).length≤140737488355328)then some (.str (Lib.join l sep))else none
  |none=>none
 |_=>none
def Zob:List AV→Option AV
 |[.str s,.str cs]=>if decide (s.length≤9223372036854775807)&&(decide (cs.length<4294967281)&&ZkO cs)then some (.str (Lib.trimS s cs))else none
 |_=>none
def ZpQ:List AV→Option AV
 |[.str s,.str p]=>if decide (s.length<4294967281)&&decide (1≤p.length)then some (.rows ((Lib.splitB ⟨p.toArray⟩ 0 (Lib.countB ⟨s.toArray⟩ ⟨p.toArray⟩) ⟨s.toArray⟩).map fun b=>[.str b.data.toList]))else none
 |_=>none
def Zei:List AV→Option AV
 |[.str s,.str p]=>if decide (s.length≤9223372036854775807)then some (.tup [.str (Lib.trimSuffix s p),.bool (Lib.hasSuffix s p)])else none
 |_=>none
def Q2:List AV→Option AV
 |[.str s,.int .u8 c]=>some (.int .i64 (Lib.indexByte s c.toNat.toUInt8))
 |_=>none
def primH(f:Nat)(args:List AV)(h:Za):Option (AV×Za) :=
 match f with
 |184=>Zef 179 args h
 |106=>ZiZ 179 5 args h
 |_=>none
def prim(f:Nat)(args:List AV):Option AV :=
 match f with
 |145=>ZpQ args
 |144=>Zei args
 |325| 354=>Q2 args
 |258=>Zvm args
 |129=>Zob args
 |328=>ZcI args
 |329=>Znm args
 |315=>Jz args
 |102=>ZdT args
 |312=>Zcw args
 |76=>Zip args
 |146=>ZBi args
 |326=>ZlU args
 |314=>ZeG args
 |49=>Zfr args
 |_=>none
theorem Znk{p:List UInt8}(vs:List Value)(h:PRepL M w [.str s,.str p] vs):vs=[.string ⟨s.toArray⟩,.string ⟨p.toArray⟩]:=by obtain⟨v,g,rfl,b,c,a,rfl,h2,h3⟩:=h;have d:v=.string ⟨s.toArray⟩:=b;have e:c=.string ⟨p.toArray⟩:=h2;have f:a=[]:=h3;rw[d,e,f]
theorem ZoW(w:World)(k:Nat)(os:Array Obj):RowKit.Below w.heap.size w (Sort.grow (w.drewN k) os) :=
 ⟨rfl,rfl,rfl,by simp[Sort.grow,World.drewN],fun b a=>by simp only[Sort.grow,World.drewN];exact S1 a⟩
def W2(f:Nat)(p:List AV→Option AV):Prop:=∀args v,p args=some v→Enters prog f∧Yr Lay prog f args [] v []
theorem Zii:W2 328 ZcI:=by
 intro args v e;unfold ZcI at e;split at e
 ·rename_i b;simp only[Va]at e;subst e;refine⟨Sa func328 (by decide) rfl,Qi (vs0:=[.bool b]) (v:=.string ⟨(Lib.formatBool b).toArray⟩) (fun M w vs h=>?_) (fun _ _=>rfl) fun w _=>(Tryz.strconv_FormatBool b w).mono ?_⟩
  ·obtain⟨v,a,rfl,c,h2⟩:=h;have d:v=.bool b:=c;have f:a=[]:=h2;rw[d,f]
  rintro e w' ⟨rfl,rfl⟩;exact⟨rfl,Wh _⟩
 simp at e
theorem Ztz:W2 329 Znm:=by
 intro args v e;unfold Znm at e;split at e
 ·rename_i n;split at e
  ·rename_i a;simp only[ZBk,VA,VK]at a;simp only[Va]at e;subst e;refine⟨Sa func329 (by decide) rfl,Qi (vs0:=[.int .i64 n]) (v:=.string ⟨(Lib.itoa n).toArray⟩) (fun M w vs h=>?_) (fun _ _=>rfl) fun w b=>(Tryz.strconv_Itoa n a.1 a.2 w b.2.2.1).mono ?_⟩
   ·obtain⟨v,c,rfl,d,h2⟩:=h;have f:v=.int .i64 n:=d;have g:c=[]:=h2;rw[f,g]
   rintro e w' ⟨rfl,k,os,rfl⟩;exact⟨rfl,ZoW _ _ _⟩
  simp at e
 simp at e
theorem ZiC:W2 315 Jz:=by
 intro args v e;unfold Jz at e;split at e
 ·rename_i s o n;split at e
  ·rename_i a;simp only[VA,VK]at a;simp only[Va]at e;subst e;refine⟨Sa func315 (by decide) rfl,Qi (vs0:=[.string ⟨s.toArray⟩,.string ⟨o.toArray⟩,.string ⟨n.toArray⟩]) (v:=.string ⟨(Lib.replaceAll s o n).toArray⟩) (fun M w vs h=>?_) (fun _ _=>rfl) fun w b=>?_⟩
   ·obtain⟨v,c,rfl,d,h2⟩:=h;have f:v=.string ⟨s.toArray⟩:=d;rw[f,Znk c h2]
   obtain⟨m,g⟩:=b.1;refine(Tryz.strings_ReplaceAll ⟨s.toArray⟩ ⟨o.toArray⟩ ⟨n.toArray⟩ m w (by simpa[ByteArray.size]using a.1) g (by simpa[ByteArray.size]using a.2.1) (by simpa[ByteArray.size]using a.2.2)).mono ?_;rintro e w' ⟨rfl,i⟩;exact⟨rfl,i⟩
  simp at e
 simp at e
theorem ZjJ:W2 102 ZdT:=by
 intro args v e;unfold ZdT at e;split at e
 ·rename_i s p;simp only[Va]at e;subst e;refine⟨Sa func102 (by decide) rfl,Qi (vs0:=[.string ⟨s.toArray⟩,.string ⟨p.toArray⟩]) (v:=.bool (Lib.hasPrefix s p)) (fun M w vs h=>Znk vs h) (fun _ _=>rfl) fun w _=>(Tryz.strings_HasPrefix _ _ w).mono ?_⟩;rintro e w' ⟨rfl,rfl⟩;exact⟨rfl,Wh _⟩
 simp at e
theorem Ziu:W2 312 Zcw:=by
 intro args v e;unfold Zcw at e;split at e
 ·rename_i s p;simp only[Va]at e;subst e;refine⟨Sa func312 (by decide) rfl,Qi (vs0:=[.string ⟨s.toArray⟩,.string ⟨p.toArray⟩]) (v:=.string ⟨(Lib.trimPrefix s p).toArray⟩) (fun M w vs h=>Znk vs h) (fun _ _=>rfl) fun w _=>(Tryz.strings_TrimPrefix _ _ w).mono ?_⟩;rintro e w' ⟨rfl,rfl⟩;exact⟨rfl,Wh _⟩
 simp at e
theorem Zne:W2 76 Zip:=by
 intro args v e;unfold Zip at e;split at e
 ·rename_i s p;simp only[Va]at e;subst e;refine⟨Sa func76 (by decide) rfl,Qi (vs0:=[.string ⟨s.toArray⟩,.string ⟨p.toArray⟩]) (v:=.int .i64 (Lib.compareBytes s p)) (fun M w vs h=>Znk vs h) (fun _ _=>rfl) fun w _=>(Tryz.strings_Compare _ _ w).mono ?_⟩;rintro e w' ⟨rfl,rfl⟩;exact⟨rfl,Wh _⟩
 simp at e
theorem ZyY:W2 146 ZBi:=by
 intro args v e;unfold ZBi at e;split at e
 ·rename_i s p;split at e
  ·rename_i a;simp only[VK]at a;simp only[Va]at e;subst e;refine⟨Sa func146 (by decide) rfl,Qi (vs0:=[.string ⟨s.toArray⟩,.string ⟨p.toArray⟩]) (v:=.tuple #[.string ⟨(Lib.cut s p).1.toArray⟩,.string ⟨(Lib.cut s p).2.1.toArray⟩,.bool (Lib.cut s p).2.2]) (fun M w vs h=>Znk vs h) (fun _ _=>⟨_,rfl,_,_,rfl,rfl,_,_,rfl,rfl,_,_,rfl,rfl,rfl⟩) fun w b=>?_⟩;obtain⟨m,c⟩:=b.1;refine(Tryz.strings_Cut ⟨s.toArray⟩ ⟨p.toArray⟩ m w (by simpa[ByteArray.size]using a) c).mono ?_;rintro e w' ⟨rfl,n,rfl⟩;exact⟨rfl,Znb _ _⟩
  simp at e
 simp at e
theorem ZpH:W2 326 ZlU:=by
 intro args v e;unfold ZlU at e;split at e
 ·rename_i s;split at e
  ·rename_i c;simp only[VA,VK,Um]at c;simp only[Va]at e;subst e;refine⟨Sa func326 (by decide) rfl,Zlf (vs0:=[.string ⟨s.toArray⟩]) (fun M w vs h=>?_) fun w g=>?_⟩
   ·obtain⟨v,k,rfl,m,h2⟩:=h;have n:v=.string ⟨s.toArray⟩:=m;have o:k=[]:=h2;rw[n,o]
   refine(Tryz.strings_Fields ⟨s.toArray⟩ w (by simpa[ByteArray.size]using c.1) (fun j b d=>c.2 b (Ve (by simpa using d))) g.2.2.2).mono ?_;rintro e w' ⟨rfl,rfl⟩;refine⟨_,rfl,⟨rfl,rfl,rfl,by simp,fun b d=>Xr _ d⟩,fun M p=>⟨some ⟨w.heap.size,0,none⟩,(Lib.fields s).length,by simp,by simp,.inr ⟨w.heap.size,0,1,rfl,PRows.of_at _ _ fun i row a=>?_⟩⟩⟩;rw[Vj]at a;cases f:(Lib.fields s)[i]? with
   |none=>simp[f]at a
   |some l =>
    simp only[f,Ue,Va]at a;subst a;refine⟨rfl,rfl,⟨.string ⟨l.toArray⟩,?_,fun q=>?_,rfl⟩,trivial⟩
    ·simp only[World.cell?,Xi];simp[f]
    have:=p _ _ q;omega
  simp at e
 simp at e
theorem ZEh(vs:List Value)(h:PRepL M w [.str s] vs):vs=[.string ⟨s.toArray⟩]:=by obtain⟨v,a,rfl,b,h2⟩:=h;have c:v=.string ⟨s.toArray⟩:=b;have d:a=[]:=h2;rw[c,d]
theorem Zwo:W2 314 ZeG:=by
 intro args v e;unfold ZeG at e;split at e
 ·rename_i s;split at e
  ·rename_i c;simp only[VK]at c;simp only[Va]at e;subst e;refine⟨Sa func314 (by decide) rfl,Zlf (vs0:=[.string ⟨s.toArray⟩]) (fun M w vs h=>ZEh vs h) fun w g=>?_⟩;have a:(⟨s.toArray⟩:ByteArray).size=s.length:=rfl;cases d:Lib.atoiAll s with
   |ok v =>
    refine(Tryz.strconv_Atoi_ok ⟨s.toArray⟩ (by rw[a];omega) v d w).mono ?_;rintro e w' ⟨rfl,b⟩;refine⟨_,rfl,?_,fun M _=>⟨_,rfl,_,_,rfl,rfl,_,_,rfl,rfl,rfl⟩⟩;rcases b with rfl|⟨t,rfl⟩
    ·exact Wh _
    exact Lib.bytesWorld_below _ _ _
   |range =>
    obtain⟨ev,f,h2⟩:=g.2.1.2;refine(Tryz.strconv_Atoi_range ⟨s.toArray⟩ (by rw[a];exact c) d ev w f h2).mono ?_;rintro e w' ⟨N,rfl,_,_,b⟩;exact⟨_,rfl,b,fun M _=>⟨_,rfl,_,_,rfl,rfl,_,_,rfl,⟨_,rfl,trivial⟩,rfl⟩⟩
   |_ =>
    obtain⟨ev,f,h2⟩:=g.2.1.1;refine(Tryz.strconv_Atoi_syntax ⟨s.toArray⟩ (by rw[a];exact c) d ev w f h2).mono ?_;rintro e w' ⟨N,rfl,_,_,b⟩;exact⟨_,rfl,b,fun M _=>⟨_,rfl,_,_,rfl,rfl,_,_,rfl,⟨_,rfl,trivial⟩,rfl⟩⟩
  simp at e
 simp at e
theorem Zo0:W2 49 Zfr:=by
 intro args v e;unfold Zfr at e;split at e
 ·rename_i s c;split at e
  ·rename_i a;simp only[VA,VK]at a;simp only[Va]at e;subst e;obtain⟨c,rfl⟩:=UW a.1;refine⟨Sa func49 (by decide) rfl,Qi (vs0:=[.string ⟨s.toArray⟩,.int .i64 c]) (v:=.string ⟨(Lib.repeatL s c).toArray⟩) (fun M w vs h=>?_) (fun _ _=>rfl) fun w _=>(Tryz.strings_Repeat ⟨s.toArray⟩ c w (by omega) (by simpa[ByteArray.size]using a.2.2)).mono ?_⟩
   ·obtain⟨v,l,rfl,d,f,b,rfl,h2,h3⟩:=h;have g:v=.string ⟨s.toArray⟩:=d;have i:f=.int .i64 c:=h2;have j:b=[]:=h3;rw[g,i,j]
   rintro e w' ⟨rfl,k⟩;exact⟨rfl,k⟩
  simp at e
 simp at e
theorem ZgR:∀(rs:List (List AV)) (l:List (List UInt8)),Zh9 rs=some l→rs=l.map fun s=>[.str s]
 |[],l,e=>by simp only[Zh9,Va]at e;subst e;rfl
 |row::r,l,e=>by
  unfold Zh9 at e;split at e
  ·simp at *
  ·rename_i s r' a;obtain⟨rfl,rfl⟩:=PM a;split at e
   ·rename_i l' b;simp only[Va]at e;subst e;rw[ZgR r l' b];rfl
   simp at e
  simp at e
theorem ZhB:∀l:List (List UInt8),(l.map fun s:List UInt8=>(⟨s.toArray⟩:ByteArray)).map (·.data.toList)=l
 |[]=>rfl
 |s::l=>by simp only[Vz];rw[ZhB l]
theorem Zw6:W2 258 Zvm:=by
 intro args v e;unfold Zvm at e;split at e
 ·rename_i rs c;split at e
  ·rename_i l A;split at e
   ·rename_i i;simp only[VA,VK]at i;simp only[Va]at e;subst e;have k:=ZgR rs l A;subst k;refine⟨Sa func258 (by decide) rfl,ZuD (v:=.string ⟨(Lib.join l c).toArray⟩) (fun _ _=>rfl) fun M w vs _ B=>?_⟩;obtain⟨H,J,rfl,C,D,m,rfl,h2,h3⟩:=B;have h2:D=.string ⟨c.toArray⟩:=h2;have h3:m=[]:=h3;subst h2;subst h3;obtain⟨base,cap,rfl,r,g⟩:=C;have h:(l.map fun s:List UInt8=>[AV.str s]).length=(l.map fun s:List UInt8=>(⟨s.toArray⟩:ByteArray)).length:=by simp
    have d:=ZhB l;rw[h]at r ⊢;cases l with
    |nil =>
     refine(Tryz.strings_Join_none base cap ⟨c.toArray⟩ w).mono ?_;rintro e w' ⟨rfl,rfl⟩;exact⟨rfl,Wh _⟩
    |cons n t =>
     rcases g with g|⟨b,o,z,rfl,y⟩
     ·simp at g
     have E:z=1:=(PRows.at _ o y 0 [.str n] rfl).1.symm;subst E;have a:∀(j:Nat) (x:ByteArray),((n::t).map fun s:List UInt8=>(⟨s.toArray⟩:ByteArray))[j]?=some x→w.cell? ⟨b,o+j,none⟩=some (.string x):=fun j x f=>by
      rw[Vj]at f;cases hs:(n::t)[j]? with
      |none=>rw[hs]at f;simp at f
      |some s =>
       rw[hs]at f;simp only[Ue,Va]at f;subst f;obtain⟨_,_,F⟩:=PRows.at _ o y j [.str s] (by rw[Vj,hs];rfl);obtain⟨⟨u,G,_,p⟩,_⟩:=F;have p:u=.string ⟨s.toArray⟩:=p;subst p;simpa using G
     have q:b<w.heap.size:=by
      have:=a 0 _ rfl;rcases Sc b w.heap.size with h'|h'
      ·exact h'
      simp[World.cell?,Uz h']at this
     refine(Tryz.strings_Join b o cap _ ⟨c.toArray⟩ w a q (by simpa using i.1) r (by rw[d];exact i.2)).mono ?_;rintro e w' ⟨rfl,g⟩;exact⟨by rw[d],g⟩
   simp at e
  simp at e
 simp at e
theorem ZtY:W2 129 Zob:=by
 intro args v e;unfold Zob at e;split at e
 ·rename_i s cs;split at e
  ·rename_i a;simp only[VA,VK,ZkO,Um]at a;simp only[Va]at e;subst e;refine⟨Sa func129 (by decide) rfl,Qi (vs0:=[.string ⟨s.toArray⟩,.string ⟨cs.toArray⟩]) (v:=.string ⟨(Lib.trimS s cs).toArray⟩) (fun M w vs h=>Znk vs h) (fun _ _=>rfl) fun w _=>(Any.strings_Trim_laid Tryz.lays160 (by kernel_rfl) ⟨s.toArray⟩ ⟨cs.toArray⟩ w (by simpa[ByteArray.size]using a.1) (by simpa[ByteArray.size]using a.2.1) (fun j b c=>a.2.2 b (Ve (by simpa using c)))).mono ?_⟩;rintro e w' ⟨rfl,c⟩;exact⟨rfl,c⟩
  simp at e
 simp at e
theorem ZrQ:W2 145 ZpQ:=by
 intro args v e;unfold ZpQ at e;split at e
 ·rename_i s p;split at e
  ·rename_i d;simp only[VA,VK]at d;simp only[Va]at e;subst e;have c:(Lib.splitB ⟨p.toArray⟩ 0 (Lib.countB ⟨s.toArray⟩ ⟨p.toArray⟩) ⟨s.toArray⟩).length=Lib.countB ⟨s.toArray⟩ ⟨p.toArray⟩+1:=Lib.splitB_all _ (by simpa[ByteArray.size]using d.2) 0 _ _ rfl;refine⟨Sa func145 (by decide) rfl,Zlf (vs0:=[.string ⟨s.toArray⟩,.string ⟨p.toArray⟩]) (fun M w vs h=>Znk vs h) fun w g=>?_⟩;obtain⟨m,j⟩:=g.1;refine(Tryz.strings_Split ⟨s.toArray⟩ ⟨p.toArray⟩ m w (by simpa[ByteArray.size]using d.1) j (by simpa[ByteArray.size]using d.2)).mono ?_;rintro e w' ⟨rfl,rfl⟩;refine⟨_,rfl,⟨rfl,rfl,rfl,by simp,fun b k=>Xr _ k⟩,fun M n=>⟨some ⟨w.heap.size,0,none⟩,Lib.countB ⟨s.toArray⟩ ⟨p.toArray⟩+1,by simp[c],by simp[c],.inr ⟨w.heap.size,0,1,rfl,PRows.of_at _ _ fun i row a=>?_⟩⟩⟩;rw[Vj]at a;cases f:(Lib.splitB ⟨p.toArray⟩ 0 (Lib.countB ⟨s.toArray⟩ ⟨p.toArray⟩) ⟨s.toArray⟩)[i]? with
   |none=>simp[f]at a
   |some l =>
    simp only[f,Ue,Va]at a;subst a;refine⟨rfl,rfl,⟨.string l,?_,fun o=>?_,rfl⟩,trivial⟩
    ·simp only[World.cell?,Xi];simp[f]
    have:=n _ _ o;omega
  simp at e
 simp at e
theorem Zjz:W2 144 Zei:=by
 intro args v e;unfold Zei at e;split at e
 ·rename_i s p;split at e
  ·rename_i a;simp only[VK]at a;simp only[Va]at e;subst e;refine⟨Sa func144 (by decide) rfl,Qi (vs0:=[.string ⟨s.toArray⟩,.string ⟨p.toArray⟩]) (v:=.tuple #[.string ⟨(Lib.trimSuffix s p).toArray⟩,.bool (Lib.hasSuffix s p)]) (fun M w vs h=>Znk vs h) (fun _ _=>⟨_,rfl,_,_,rfl,rfl,_,_,rfl,rfl,rfl⟩) fun w _=>(Tryz.strings_CutSuffix ⟨s.toArray⟩ ⟨p.toArray⟩ w (by simpa[ByteArray.size]using a)).mono ?_⟩;rintro e w' ⟨rfl,rfl⟩;exact⟨rfl,Wh _⟩
  simp at e
 simp at e
theorem ZvQ{k:IntKind}{c:Int}(vs:List Value)(h:PRepL M w [.str s,.int k c] vs):vs=[.string ⟨s.toArray⟩,.int k c]:=by obtain⟨v,i,rfl,b,d,a,rfl,h2,h3⟩:=h;have e:v=.string ⟨s.toArray⟩:=b;have f:d=.int k c:=h2;have g:a=[]:=h3;rw[e,f,g]
theorem ZjM:W2 325 Q2:=by
 intro args v e;unfold Q2 at e;split at e
 ·rename_i s c;simp only[Va]at e;subst e;refine⟨Sa func325 (by decide) rfl,Qi (vs0:=[.string ⟨s.toArray⟩,.int .u8 c]) (v:=.int .i64 (Lib.indexByte s c.toNat.toUInt8)) (fun M w vs h=>ZvQ vs h) (fun _ _=>rfl) fun w _=>(Tryz.strings_IndexByte ⟨s.toArray⟩ c w).mono ?_⟩;rintro e w' ⟨rfl,rfl⟩;exact⟨rfl,Wh _⟩
 simp at e
theorem Zi6:W2 354 Q2:=by
 intro args v e;unfold Q2 at e;split at e
 ·rename_i s c;simp only[Va]at e;subst e;refine⟨Sa func354 (by decide) rfl,Qi (vs0:=[.string ⟨s.toArray⟩,.int .u8 c]) (v:=.int .i64 (Lib.indexByte s c.toNat.toUInt8)) (fun M w vs h=>ZvQ vs h) (fun _ _=>rfl) fun w _=>(Tryz.stringslite_IndexByte ⟨s.toArray⟩ c w).mono ?_⟩;rintro e w' ⟨rfl,rfl⟩;exact⟨rfl,Wh _⟩
 simp at e
theorem ZnF:∀f args h r h',primH f args h=some (r,h')→Enters prog f∧Yr Lay prog f args h r h':=by
 intro f args h r h' e;unfold primH at e;split at e
 ·exact⟨Sa func184 (by decide) rfl,Zgf (ρ:=Tryz.lays155_ren) {Tryz.lays155 with} Tryz.Builder_Extra_155.toX72 e⟩
 ·exact⟨Sa func106 (by decide) rfl,Zi7 (ρ:=Tryz.lays155_ren) {Tryz.lays155 with} Tryz.Builder_Extra_155 e⟩
 simp at e
theorem ZlD:∀f args v,prim f args=some v→Enters prog f∧Yr Lay prog f args [] v []:=by
 intro f args v e;unfold prim at e;split at e
 ·exact ZrQ args v e
 ·exact Zjz args v e
 ·exact ZjM args v e
 ·exact Zi6 args v e
 ·exact Zw6 args v e
 ·exact ZtY args v e
 ·exact Zii args v e
 ·exact Ztz args v e
 ·exact ZiC args v e
 ·exact ZjJ args v e
 ·exact Ziu args v e
 ·exact Zne args v e
 ·exact ZyY args v e
 ·exact ZpH args v e
 ·exact Zwo args v e
 ·exact Zo0 args v e
 simp at e
end Go.Ab
namespace Go.Ab
open Go Go.Proofs Go.Proofs.Tryz
variable{M:Nat→Nat→Prop}{w:World}{s:List UInt8}
def dyn(f r:Nat):List (Nat×Nat) :=
 match f with
 |4=>if r=5 then[(8,20)]else(if r=9 then[(6,37),(6,45),(6,48),(14,37),(14,38),(14,45)]else(if r=14 then[(5,73)]else(if r=25 then[(7,132),(7,7),(7,140),(10,132)]else([]))))
 |6=>if r=4 then[(6,15)]else(if r=7 then[(10,35),(12,35)]else(if r=13 then[(10,75),(12,75)]else(if r=15 then[(10,92),(13,92)]else(if r=19 then[(5,129),(5,130),(5,131),(8,129),(8,130),(8,131),(16,124),(16,127),(16,129),(16,130),(16,131)]else(if r=21 then[(5,160),(5,161),(8,160),(8,161),(13,150),(13,153),(13,160),(13,161),(20,150),(20,153),(20,155),(20,158),(20,160),(20,161)]else([]))))))
 |7=>if r=3 then[(6,27)]else(if r=4 then[(1,38)]else(if r=5 then[(6,41)]else(if r=22 then[(2,107),(2,108),(9,102),(9,105),(9,107),(9,108),(12,102),(12,105),(12,107),(12,108)]else(if r=26 then[(6,125)]else(if r=27 then[(2,139),(2,141),(2,142),(12,134),(12,137),(12,139),(12,141),(12,142)]else([]))))))
 |12=>if r=3 then[(4,18)]else(if r=8 then[(8,37)]else(if r=14 then[(4,69),(10,73)]else([])))
 |27=>if r=9 then[(1,3)]else([])
 |31=>if r=4 then[(5,28),(999,5)]else(if r=6 then[(6,31)]else(if r=22 then[(12,92)]else(if r=24 then[(12,109)]else(if r=26 then[(10,126),(999,10)]else(if r=28 then[(12,141)]else(if r=30 then[(10,158),(999,10)]else(if r=37 then[(5,186)]else([]))))))))
 |36=>if r=5 then[(11,30)]else(if r=11 then[(8,57)]else(if r=18 then[(6,82)]else(if r=19 then[(11,92)]else([]))))
 |48=>if r=2 then[(2,9),(7,7),(7,10)]else([])
 |54| 67=>if r=5 then[(2,18),(5,20)]else(if r=6 then[(2,26),(5,28)]else(if r=10 then[(9,37)]else(if r=15 then[(9,56)]else([]))))
 |73=>if r=1 then[(5,14)]else(if r=7 then[(8,49),(999,8)]else([]))
 |82=>if r=6 then[(7,52),(8,52)]else(if r=15 then[(7,97)]else([]))
 |85=>if r=1 then[(4,1)]else([])
 |91=>if r=5 then[(14,52)]else([])
 |92=>if r=5 then[(9,32)]else([])
 |93=>if r=1 then[(8,20)]else(if r=5 then[(6,41)]else([]))
 |103=>if r=3 then[(4,16)]else([])
 |106=>if r=1 then[(4,10)]else([])
 |120=>if r=4 then[(7,22)]else(if r=6 then[(10,28)]else(if r=14 then[(6,71)]else([])))
 |121=>if r=1 then[(9,19)]else(if r=4 then[(6,32)]else(if r=12 then[(6,70),(11,75),(17,81)]else(if r=18 then[(5,110)]else(if r=20 then[(1,114),(999,1)]else(if r=21 then[(8,126),(999,8)]else([]))))))
 |122=>if r=1 then[(5,11),(999,5)]else(if r=4 then[(9,26)]else(if r=12 then[(8,6)]else([])))
 |123=>if r=1 then[(9,15)]else(if r=4 then[(6,27)]else(if r=11 then[(5,57)]else(if r=16 then[(6,79)]else(if r=23 then[(5,109)]else([])))))
 |133=>if r=1 then[(7,15),(11,18)]else([])
 |139=>if r=9 then[(2,39),(6,42)]else([])
 |157=>if r=3 then[(9,21)]else([])
 |158=>if r=5 then[(6,28),(6,36),(11,38)]else([])
 |159=>if r=7 then[(6,40)]else(if r=18 then[(16,98)]else([]))
 |160=>if r=1 then[(15,13),(15,16)]else([])
 |161=>if r=5 then[(13,40),(18,45)]else([])
 |162=>if r=8 then[(13,1),(13,38)]else([])
 |165=>if r=0 then[(7,7)]else([])
 |185=>if r=0 then[(4,16)]else([])
 |209=>if r=1 then[(11,15)]else([])
 |241=>if r=4 then[(14,32)]else([])
 |242=>if r=5 then[(9,49)]else(if r=17 then[(9,101)]else(if r=35 then[(11,169)]else([])))
 |244=>if r=4 then[(14,32)]else([])
 |245=>if r=5 then[(9,49)]else(if r=17 then[(9,101)]else(if r=35 then[(11,169)]else([])))
 |246=>if r=4 then[(14,32)]else([])
 |247=>if r=5 then[(9,49)]else(if r=17 then[(9,101)]else(if r=35 then[(11,169)]else([])))
 |260=>if r=6 then[(4,22),(4,30),(4,32)]else([])
 |266=>if r=1 then[(16,22)]else([])
 |269=>if r=4 then[(13,25),(15,38)]else([])
 |286=>if r=6 then[(6,31)]else([])
 |367=>if r=4 then[(14,32)]else([])
 |368=>if r=5 then[(9,49)]else(if r=17 then[(9,101)]else(if r=35 then[(11,169)]else([])))
 |_=>[]
def wrE(t:Nat):Bool :=
 t==36||t==42||t==43
def wrB(t:Nat):Bool :=
 false
def wrT(t:Nat):Bool :=
 match t with
 |22| 26| 41| 82| 86| 89| 167=>true
 |_=>false
def nlT(t:Nat):Bool :=
 match t with
 |26| 41| 42| 43| 89=>true
 |_=>false
def nlA(f:Nat):Bool×Nat :=
 match f with
 |14=>(false,4)
 |16| 18| 20| 41=>(false,1)
 |42=>(false,4)
 |46| 51| 55=>(false,1)
 |56=>(false,2)
 |61| 63| 64=>(false,1)
 |68| 69=>(false,2)
 |70=>(false,1)
 |71=>(false,2)
 |72=>(false,1)
 |73| 74=>(false,2)
 |75=>(false,1)
 |77=>(false,2)
 |78=>(false,1)
 |79=>(false,2)
 |80=>(false,1)
 |120| 121| 122| 123=>(false,2)
 |135| 136=>(false,4)
 |137| 138| 140| 142| 143=>(false,2)
 |153=>(true,0)
 |203=>(false,1)
 |204=>(false,2)
 |205=>(false,1)
 |207=>(false,2)
 |208=>(false,1)
 |209=>(false,2)
 |210| 211=>(false,1)
 |212=>(false,2)
 |213=>(false,1)
 |214=>(false,2)
 |218| 219=>(false,1)
 |221=>(false,2)
 |222| 223=>(false,1)
 |224| 241| 244| 246=>(false,2)
 |291=>(false,1)
 |_=>(false,0)
def ret(f:Nat):Nat :=
 match f with
 |17| 19| 21| 22=>1
 |27| 31=>5
 |33| 34| 35| 36=>3
 |54| 56| 67| 68| 69| 71| 73| 74| 77| 79=>5
 |85=>3
 |86=>1
 |87| 92| 93=>3
 |118=>1
 |120| 121| 122| 123| 137| 138| 140| 142| 143=>5
 |155=>1
 |159| 160| 164| 165| 166| 167| 174| 178=>3
 |179=>1
 |204| 207| 209| 212| 214| 221| 224=>5
 |237=>1
 |241| 244| 246=>5
 |270| 271=>3
 |_=>0
def live(f b:Nat):Option (List Nat×List (Nat×Option Nat×Nat×Bool)×List Nat) :=
 match f with
 |3=>match b with
  |0=>some ([3,4,16],[],[])
  |_=>none
 |4=>match b with
  |0=>some ([0,2,3,16,17],[(3,some 0,5,false)],[])
  |2=>some ([0,2,3,34,35],[],[])
  |4=>some ([0,2,3,5,6,7,34,35,67,68,69],[(7,some 1,1,false)],[])
  |6=>some ([0,2,3,5,6,7,10,34,35,67,68,69,85,86,87],[],[])
  |_=>none
 |7=>match b with
  |1=>some ([0,4,5,6,162,163,164],[],[])
  |_=>none
 |12=>match b with
  |0=>some ([0,4,5,33,34],[],[])
  |2=>some ([0,4,5,51,52],[(5,some 4,3,false)],[])
  |4=>some ([0,4,5,8,51,52,74,75,76],[(8,some 1,1,false)],[])
  |_=>none
 |14=>match b with
  |0=>some ([0,1,7,8],[],[])
  |_=>none
 |20=>match b with
  |0=>some ([1,19,20,21],[],[])
  |2=>some ([1,49,50,51],[],[])
  |4=>some ([1,8,49,50,51,56,57,58],[],[])
  |6=>some ([1,8,10,11,49,50,51,56,57,58,84,85,86],[],[])
  |_=>none
 |26=>match b with
  |0=>some ([0,1,5,9,10],[(5,none,1,true)],[])
  |2=>some ([0,5,7],[],[])
  |_=>none
 |31=>match b with
  |1=>some ([2,3,4,60,61,62],[],[])
  |3=>some ([2,3,4,7,60,61,62,68,69],[],[])
  |5=>some ([2,4,5,9,10,179,180,181],[(10,none,6,true)],[])
  |7=>some ([2,4,206,207,208],[],[])
  |_=>none
 |32=>match b with
  |0=>some ([0,2,6,7,8,25,26,27],[(7,some 0,5,true)],[])
  |_=>none
 |41=>match b with
  |0=>some ([0,1,7,8],[],[])
  |_=>none
 |42=>match b with
  |0=>some ([0,1,7,8],[],[])
  |_=>none
 |45=>match b with
  |0=>some ([1,41,42,43],[],[])
  |3=>some ([1,77,78,79],[],[])
  |6=>some ([1,106,107,108],[],[])
  |8=>some ([1,138,139,140],[],[])
  |_=>none
 |48=>match b with
  |0=>some ([0,3,4,18,19],[],[])
  |_=>none
 |54=>match b with
  |0=>some ([2,3,9,10,11],[(3,none,5,true)],[])
  |2=>some ([2,3,5,9,10,11,33,34],[],[])
  |4=>some ([2,3,5,9,10,11,52,53],[],[])
  |_=>none
 |67=>match b with
  |0=>some ([2,3,9,10,11],[],[])
  |2=>some ([2,3,5,9,10,11,33,34],[],[])
  |4=>some ([2,3,5,9,10,11,52,53],[],[])
  |_=>none
 |69=>match b with
  |0=>some ([0,1,5,6],[],[])
  |_=>none
 |71=>match b with
  |0=>some ([0,1,5,6],[],[])
  |_=>none
 |73=>match b with
  |1=>some ([0,3,53,54,55],[],[])
  |3=>some ([3,70,71,72],[],[])
  |_=>none
 |83=>match b with
  |0=>some ([3,14,15,16],[(3,none,1,false)],[])
  |2=>some ([3,5,14,15,16,27,28,29],[(3,none,1,false)],[])
  |4=>some ([3,5,14,15,16,47,48,49],[(3,none,1,false)],[])
  |6=>some ([3,14,15,16,66,67,68],[(3,none,1,false)],[])
  |_=>none
 |87=>match b with
  |0=>some ([0,1,15,16,17],[],[])
  |_=>none
 |89=>match b with
  |0=>some ([0,22],[],[])
  |_=>none
 |90=>match b with
  |0=>some ([0,3,22,23,24],[],[])
  |_=>none
 |91=>match b with
  |0=>some ([0,1,5,31,32,33],[(5,none,3,false)],[])
  |2=>some ([0,1,5,6,7,8,9,31,32,33,63,64,65],[],[])
  |4=>some ([0,1,5,6,7,8,9,14,31,32,33,88,89,90],[],[])
  |6=>some ([0,1,5,7,8,14,31,32,33,129,130,131],[],[])
  |_=>none
 |92=>match b with
  |0=>some ([0,5,17,18,19],[],[])
  |2=>some ([0,5,7,8,9,17,18,19,45,46,47],[],[])
  |4=>some ([0,5,9,17,18,19,79,80,81],[],[])
  |_=>none
 |93=>match b with
  |0=>some ([0,5,29,30,31],[],[])
  |2=>some ([0,5,7,8,9,10,29,30,31,52,53,54],[],[])
  |4=>some ([0,5,7,8,9,10,13,29,30,31,69,70,71],[(13,none,1,true)],[])
  |_=>none
 |96=>match b with
  |0=>some ([3,14,15,16],[],[])
  |_=>none
 |97=>match b with
  |0=>some ([0,2,3,13,14,15],[],[])
  |2=>some ([0,2,3,6,13,14,15,29,30,31],[],[])
  |_=>none
 |99=>match b with
  |0=>some ([1,2,7,8,9],[],[])
  |_=>none
 |107=>match b with
  |0=>some ([6,7,8],[],[])
  |_=>none
 |109=>match b with
  |0=>some ([1,7,8],[],[])
  |_=>none
 |120=>match b with
  |2=>some ([0,3,85,86,87],[],[])
  |4=>some ([0,3,5,85,86,87,93,94],[],[])
  |_=>none
 |121=>match b with
  |4=>some ([3,4,130,131,132],[],[])
  |6=>some ([3,147,148,149],[],[])
  |8=>some ([3,4,9,164,165,166],[(9,none,6,true)],[])
  |_=>none
 |124=>match b with
  |0=>some ([0,1,7,8],[],[])
  |_=>none
 |135=>match b with
  |0=>some ([0,1,7,8],[],[])
  |_=>none
 |136=>match b with
  |0=>some ([0,1,7,8],[],[])
  |_=>none
 |138=>match b with
  |0=>some ([0,1,2,8,9],[],[])
  |_=>none
 |139=>match b with
  |1=>some ([1,2,4,43,44,45],[],[])
  |_=>none
 |140=>match b with
  |0=>some ([0,1,2,6,7,8],[],[])
  |2=>some ([0,1,2,6],[],[])
  |4=>some ([0,1,2,6,7,8],[],[])
  |_=>none
 |142=>match b with
  |0=>some ([0,1,2,6,7,8],[],[])
  |2=>some ([0,1,2,6],[],[])
  |4=>some ([0,1,2,6,7,8],[],[])
  |_=>none
 |143=>match b with
  |0=>some ([0,1,2,6,7,8],[],[])
  |2=>some ([0,1,2,6],[],[])
  |4=>some ([0,1,2,6,7,8],[],[])
  |_=>none
 |151=>match b with
  |0=>some ([0,1,7,8,9],[],[])
  |_=>none
 |155=>match b with
  |0=>some ([0,5,6,7],[(5,none,1,false)],[])
  |_=>none
 |156=>match b with
  |0=>some ([5,12,13,14],[],[])
  |_=>none
 |158=>match b with
  |0=>some ([0,4,18,19,20],[],[])
  |2=>some ([0,4,6,18,19,20,52,53,54],[],[])
  |4=>some ([0,4,6,8,18,19,20,52,53,54,59,60,61],[],[])
  |_=>none
 |159=>match b with
  |0=>some ([0,7,8,28,29,30],[],[])
  |_=>none
 |160=>match b with
  |0=>some ([0,37,38,39],[],[])
  |2=>some ([0,3,4,5,37,38,39,71,72,73],[(5,none,1,true)],[])
  |_=>none
 |161=>match b with
  |0=>some ([1,12,13,14],[],[])
  |_=>none
 |162=>match b with
  |0=>some ([1,15,16,17],[],[])
  |2=>some ([1,3,4,15,16,17,23,24,25],[],[])
  |_=>none
 |163=>match b with
  |0=>some ([0,1,7,8],[],[])
  |_=>none
 |166=>match b with
  |0=>some ([0,3,20,21,22],[],[])
  |2=>some ([0,3,54,55,56],[],[])
  |4=>some ([0,79,80,81],[],[])
  |_=>none
 |167=>match b with
  |0=>some ([0,10,11,12],[],[])
  |_=>none
 |168=>match b with
  |0=>some ([1,2,15,16,17],[],[])
  |_=>none
 |169=>match b with
  |0=>some ([0,1,12,13],[],[])
  |_=>none
 |171=>match b with
  |0=>some ([2,3,6,7,11,12,13],[(6,none,3,true)],[])
  |_=>none
 |173=>match b with
  |0=>some ([0,2,4,35,36,37],[],[])
  |2=>some ([0,2,4,9,10,12,35,36,37],[],[])
  |4=>some ([0,2,4,66,67,68],[],[])
  |_=>none
 |175=>match b with
  |0=>some ([3,8,9,10],[(3,none,1,false)],[])
  |3=>some ([3,6,7,8,9,10],[(3,none,1,false)],[])
  |_=>none
 |177=>match b with
  |0=>some ([0,1,7,8],[],[])
  |_=>none
 |204=>match b with
  |0=>some ([0,1,5,6],[],[])
  |_=>none
 |206=>match b with
  |0=>some ([0,23,24],[],[])
  |_=>none
 |212=>match b with
  |0=>some ([0,1,5,6],[],[])
  |_=>none
 |214=>match b with
  |0=>some ([0,1,2,8,9],[],[])
  |_=>none
 |241=>match b with
  |0=>some ([0,1,2,3,8],[],[])
  |2=>some ([0,1,2,3,8,9],[],[])
  |_=>none
 |242=>match b with
  |0=>some ([0,1,4,10,11],[],[])
  |2=>some ([0,10,13],[],[])
  |4=>some ([0,2,4,14,15],[],[])
  |6=>some ([0,14,17],[],[])
  |8=>some ([0,1,2,3,4,18,19,20,21,22],[],[])
  |_=>none
 |244=>match b with
  |0=>some ([0,1,2,3,8],[],[])
  |2=>some ([0,1,2,3,8,9],[],[])
  |_=>none
 |245=>match b with
  |0=>some ([0,1,4,10,11],[],[])
  |2=>some ([0,10,13],[],[])
  |4=>some ([0,2,4,14,15],[],[])
  |6=>some ([0,14,17],[],[])
  |8=>some ([0,1,2,3,4,18,19,20,21,22],[],[])
  |_=>none
 |246=>match b with
  |0=>some ([0,1,2,3,8],[],[])
  |2=>some ([0,1,2,3,8,9],[],[])
  |_=>none
 |247=>match b with
  |0=>some ([0,1,4,10,11],[],[])
  |2=>some ([0,10,13],[],[])
  |4=>some ([0,2,4,14,15],[],[])
  |6=>some ([0,14,17],[],[])
  |8=>some ([0,1,2,3,4,18,19,20,21,22],[],[])
  |_=>none
 |251=>match b with
  |0=>some ([0,1,8,9],[],[])
  |_=>none
 |252=>match b with
  |0=>some ([0,3,4,5,8,9],[(3,none,1,false)],[])
  |_=>none
 |260=>match b with
  |0=>some ([1,2,15,16,17],[],[])
  |_=>none
 |261=>match b with
  |0=>some ([1,15,16,17],[],[])
  |_=>none
 |262=>match b with
  |0=>some ([0,2,4,33,34,35],[],[])
  |2=>some ([0,2,4,65,66,67],[],[])
  |_=>none
 |265=>match b with
  |0=>some ([1,3,7,13,14,15],[],[])
  |_=>none
 |271=>match b with
  |0=>some ([0,10,11,12],[],[])
  |_=>none
 |272=>match b with
  |0=>some ([0,1,2,8,9,10],[],[])
  |_=>none
 |274=>match b with
  |0=>some ([0,1,11,12],[],[])
  |_=>none
 |280=>match b with
  |0=>some ([6,7,8],[],[])
  |_=>none
 |302=>match b with
  |1=>some ([1,23,24],[],[])
  |_=>none
 |316=>match b with
  |0=>some ([0,2,4,20,21,22],[(4,none,1,true)],[])
  |_=>none
 |317=>match b with
  |0=>some ([0,2,4,10,11],[],[])
  |_=>none
 |318=>match b with
  |0=>some ([0,2,4,10,11],[],[])
  |_=>none
 |319=>match b with
  |0=>some ([0,2,4,10,11],[],[])
  |_=>none
 |324=>match b with
  |1=>some ([0,1,5,6,7,8,9,10],[],[])
  |_=>none
 |331=>match b with
  |0=>some ([3,6,7,8],[],[])
  |_=>none
 |332=>match b with
  |0=>some ([0,1,7,8],[],[])
  |_=>none
 |336=>match b with
  |0=>some ([0,1,2,6,7,8],[],[])
  |2=>some ([0,1,2,6],[],[])
  |4=>some ([0,1,2,6,7,8],[],[])
  |_=>none
 |339=>match b with
  |0=>some ([0,2,3,14,15],[],[])
  |_=>none
 |348=>match b with
  |0=>some ([0,1,3,4,5,12,13,14],[],[])
  |2=>some ([0,1,3,4,5,12,13,15],[],[])
  |_=>none
 |349=>match b with
  |0=>some ([0,1,2,3,10],[],[])
  |_=>none
 |350=>match b with
  |0=>some ([0,1,2,3,10],[],[])
  |_=>none
 |351=>match b with
  |0=>some ([0,1,2,3,10],[],[])
  |_=>none
 |362=>match b with
  |0=>some ([2,3,4,5],[],[])
  |2=>some ([2,3,4,5,6],[],[])
  |_=>none
 |367=>match b with
  |0=>some ([0,1,2,3,8],[],[])
  |2=>some ([0,1,2,3,8,9],[],[])
  |_=>none
 |368=>match b with
  |0=>some ([0,1,4,10,11],[],[])
  |2=>some ([0,10,13],[],[])
  |4=>some ([0,2,4,14,15],[],[])
  |6=>some ([0,14,17],[],[])
  |8=>some ([0,1,2,3,4,18,19,20,21,22],[],[])
  |_=>none
 |369=>match b with
  |0=>some ([0,1,3,4,5,12,13,14],[],[])
  |_=>none
 |371=>match b with
  |0| 2=>some ([0,2,3,4,5],[],[])
  |_=>none
 |386=>match b with
  |0=>some ([3,6,7,8],[],[])
  |_=>none
 |387=>match b with
  |0=>some ([0,2,4,10,11],[],[])
  |_=>none
 |399=>match b with
  |0=>some ([0,1,2,3,10],[],[])
  |_=>none
 |_=>none
def out(f b:Nat):Option (List Nat) :=
 match f with
 |3=>match b with
  |0=>some []
  |_=>none
 |4=>match b with
  |0=>some [0,2,3]
  |2=>some [2,3]
  |4=>some [0,2,3,5,7,34,35]
  |6=>some [0,2,3,5,6,7,34,35,67,68,69]
  |_=>none
 |7=>match b with
  |1=>some [0,4,6]
  |_=>none
 |12=>match b with
  |0=>some [0,4,5]
  |2=>some [4,5]
  |4=>some [0,4,5,8,51,52]
  |_=>none
 |14=>match b with
  |0=>some []
  |_=>none
 |20=>match b with
  |0=>some [1]
  |2=>some []
  |4=>some [1,49,50,51]
  |6=>some [1,8,49,50,51,56,57,58]
  |_=>none
 |26=>match b with
  |0=>some [0,1,5]
  |2=>some [5]
  |_=>none
 |31=>match b with
  |1=>some [2,4]
  |3=>some [2,3,4,60,61,62]
  |5=>some [2,4,5,10]
  |7=>some [2,4]
  |_=>none
 |32=>match b with
  |0=>some [0,2,6,7,8]
  |_=>none
 |41=>match b with
  |0=>some []
  |_=>none
 |42=>match b with
  |0=>some []
  |_=>none
 |45=>match b with
  |0| 3| 6=>some [1]
  |8=>some []
  |_=>none
 |48=>match b with
  |0=>some [4]
  |_=>none
 |54=>match b with
  |0=>some [2,3]
  |2| 4=>some [2,3,5,9,10,11]
  |_=>none
 |67=>match b with
  |0=>some [2,3]
  |2| 4=>some [2,3,5,9,10,11]
  |_=>none
 |69=>match b with
  |0=>some [0,5]
  |_=>none
 |71=>match b with
  |0=>some [0,5]
  |_=>none
 |73=>match b with
  |1=>some [0,3]
  |3=>some []
  |_=>none
 |83=>match b with
  |0=>some [3]
  |2| 4=>some [3,5,14,15,16]
  |6=>some [3,14,15,16]
  |_=>none
 |87=>match b with
  |0=>some [0,1]
  |_=>none
 |89=>match b with
  |0=>some []
  |_=>none
 |90=>match b with
  |0=>some [3]
  |_=>none
 |91=>match b with
  |0=>some [5]
  |2=>some [0,1,5,6,7,8,9,31,32,33]
  |4=>some [0,1,5,6,7,8,14,31,32,33]
  |6=>some [0,1,5,8,31,32,33]
  |_=>none
 |92=>match b with
  |0=>some [5]
  |2=>some [0,5,7,9,17,18,19]
  |4=>some [0,5,17,18,19]
  |_=>none
 |93=>match b with
  |0=>some [5]
  |2=>some [0,5,7,8,9,10,29,30,31]
  |4=>some [0,5,7,8,9,13,29,30,31]
  |_=>none
 |96=>match b with
  |0=>some [3]
  |_=>none
 |97=>match b with
  |0=>some [2,3]
  |2=>some [0,2,3,6,13,14,15]
  |_=>none
 |99=>match b with
  |0=>some []
  |_=>none
 |107=>match b with
  |0=>some []
  |_=>none
 |109=>match b with
  |0=>some []
  |_=>none
 |120=>match b with
  |2=>some [0]
  |4=>some [0,3,85,86,87]
  |_=>none
 |121=>match b with
  |4=>some [3,4]
  |6=>some []
  |8=>some [4,9]
  |_=>none
 |124=>match b with
  |0=>some []
  |_=>none
 |135=>match b with
  |0=>some []
  |_=>none
 |136=>match b with
  |0=>some []
  |_=>none
 |138=>match b with
  |0=>some []
  |_=>none
 |139=>match b with
  |1=>some [4]
  |_=>none
 |140=>match b with
  |0=>some [0,1,2,6,7]
  |2=>some []
  |4=>some [0,1,2,6,7]
  |_=>none
 |142=>match b with
  |0=>some [0,1,2,6,7]
  |2=>some []
  |4=>some [0,1,2,6,7]
  |_=>none
 |143=>match b with
  |0=>some [0,1,2,6,7]
  |2=>some []
  |4=>some [0,1,2,6,7]
  |_=>none
 |151=>match b with
  |0=>some [1]
  |_=>none
 |155=>match b with
  |0=>some [5]
  |_=>none
 |156=>match b with
  |0=>some [5]
  |_=>none
 |158=>match b with
  |0=>some []
  |2=>some [0,4,18,19,20]
  |4=>some [0,4,6,18,19,20,52,53,54]
  |_=>none
 |159=>match b with
  |0=>some [7,8]
  |_=>none
 |160=>match b with
  |0=>some []
  |2=>some [0,3,4,5,37,38,39]
  |_=>none
 |161=>match b with
  |0=>some []
  |_=>none
 |162=>match b with
  |0=>some []
  |2=>some [1,15,16,17]
  |_=>none
 |163=>match b with
  |0=>some []
  |_=>none
 |166=>match b with
  |0| 2=>some [0,3]
  |4=>some []
  |_=>none
 |167=>match b with
  |0=>some []
  |_=>none
 |168=>match b with
  |0=>some []
  |_=>none
 |169=>match b with
  |0=>some []
  |_=>none
 |171=>match b with
  |0=>some [6,7]
  |_=>none
 |173=>match b with
  |0=>some [0,2,4]
  |2=>some [0,2,4,35,36,37]
  |4=>some []
  |_=>none
 |175=>match b with
  |0=>some [3]
  |3=>some [3,8,9,10]
  |_=>none
 |177=>match b with
  |0=>some []
  |_=>none
 |204=>match b with
  |0=>some [0,5]
  |_=>none
 |206=>match b with
  |0=>some []
  |_=>none
 |212=>match b with
  |0=>some [0,5]
  |_=>none
 |214=>match b with
  |0=>some []
  |_=>none
 |241=>match b with
  |0=>some []
  |2=>some [0,1,2,3,8]
  |_=>none
 |242=>match b with
  |0=>some [0,1,10]
  |2=>some []
  |4=>some [0,2,14]
  |6=>some []
  |8=>some [0,1,2,3,4,18,19,20]
  |_=>none
 |244=>match b with
  |0=>some []
  |2=>some [0,1,2,3,8]
  |_=>none
 |245=>match b with
  |0=>some [0,1,10]
  |2=>some []
  |4=>some [0,2,14]
  |6=>some []
  |8=>some [0,1,2,3,4,18,19,20]
  |_=>none
 |246=>match b with
  |0=>some []
  |2=>some [0,1,2,3,8]
  |_=>none
 |247=>match b with
  |0=>some [0,1,10]
  |2=>some []
  |4=>some [0,2,14]
  |6=>some []
  |8=>some [0,1,2,3,4,18,19,20]
  |_=>none
 |251=>match b with
  |0=>some [0]
  |_=>none
 |252=>match b with
  |0=>some [0,3,5]
  |_=>none
 |260=>match b with
  |0=>some []
  |_=>none
 |261=>match b with
  |0=>some []
  |_=>none
 |262=>match b with
  |0=>some [0,2,4]
  |2=>some []
  |_=>none
 |265=>match b with
  |0=>some []
  |_=>none
 |271=>match b with
  |0=>some []
  |_=>none
 |272=>match b with
  |0=>some [0,1,2,8,9]
  |_=>none
 |274=>match b with
  |0=>some [0,1]
  |_=>none
 |280=>match b with
  |0=>some []
  |_=>none
 |302=>match b with
  |1=>some []
  |_=>none
 |316=>match b with
  |0=>some [0,2,4]
  |_=>none
 |317=>match b with
  |0=>some [0,2,4,10]
  |_=>none
 |318=>match b with
  |0=>some [0,2,4,10]
  |_=>none
 |319=>match b with
  |0=>some [0,2,4,10]
  |_=>none
 |324=>match b with
  |1=>some []
  |_=>none
 |331=>match b with
  |0=>some [3]
  |_=>none
 |332=>match b with
  |0=>some []
  |_=>none
 |336=>match b with
  |0=>some [0,1,2,6,7]
  |2=>some []
  |4=>some [0,1,2,6,7]
  |_=>none
 |339=>match b with
  |0=>some [0,2,3]
  |_=>none
 |348=>match b with
  |0=>some [0,1,3,4,5,12,13]
  |2=>some [3,4,5,12,13]
  |_=>none
 |349=>match b with
  |0=>some []
  |_=>none
 |350=>match b with
  |0=>some []
  |_=>none
 |351=>match b with
  |0=>some []
  |_=>none
 |362=>match b with
  |0=>some [2,3,4,5]
  |2=>some [2,3,4,5,6]
  |_=>none
 |367=>match b with
  |0=>some []
  |2=>some [0,1,2,3,8]
  |_=>none
 |368=>match b with
  |0=>some [0,1,10]
  |2=>some []
  |4=>some [0,2,14]
  |6=>some []
  |8=>some [0,1,2,3,4,18,19,20]
  |_=>none
 |369=>match b with
  |0=>some [3,4,5,12,13]
  |_=>none
 |371=>match b with
  |0| 2=>some [0,2,3,4,5]
  |_=>none
 |386=>match b with
  |0=>some [3]
  |_=>none
 |387=>match b with
  |0=>some [0,2,4,10]
  |_=>none
 |399=>match b with
  |0=>some []
  |_=>none
 |_=>none
def post(f:Nat):List (Nat×List Nat×List Pop) :=
 match f with
 |4=>[(7,[0,2,3,34,35],[.cell 3 0]),(25,[0,2,3,13,34,35,143],[.opt 143 3,.keep [0,2,3,13,34,35],.cell 13 0])]
 |7=>[(37,[0,4,6,181],[.keep [0,4,6,181]])]
 |12=>[(10,[0,4,5,51,52],[.cell 5 1,.cell 5 2])]
 |29=>[(3,[1,3,4,5],[.keep [1,2,3,4,5]]),(4,[1,3,5,6],[.keep [1,2,3,4,5,6]]),(5,[1,3,5,6,7],[.keep [1,2,3,4,5,6,7]]),(6,[1,3,5,6,7,8],[.keep [1,2,3,4,5,6,7,8]]),(7,[1,3,5,6,7,8,9],[.keep [1,2,3,4,5,6,7,8,9]]),(8,[1,3,5,6,7,8,9,10],[.keep [1,2,3,4,5,6,7,8,9,10]]),(9,[1,3,5,6,7,8,9,10,11],[.keep [1,2,3,4,5,6,7,8,9,10,11]]),(10,[1,3,5,6,7,8,9,10,12],[.keep [1,2,3,4,5,6,7,8,9,10,11,12]])]
 |32=>[(8,[0,2,6,7,8,25,26,27,28],[.whenF 28,.row 7 0 0 1,.row 7 0 0 2,.row 7 0 0 3,.row 7 0 0 4,.cell 7 0]),(11,[0,2,6,7,8,25,26,27],[.whenN 7 0 1,.row 7 0 1 1,.row 7 0 1 2,.row 7 0 1 3,.row 7 0 1 4,.new 7 0 1 6 true,.new 7 0 3 3 true,.new 7 0 4 3 true,.tidy])]
 |123=>[(7,[4,5],[.cell 5 1]),(19,[4,7],[.cell 7 1])]
 |_=>[]
def goods:List Nat:=[3,4,5,6,7,8,9,10,11,12,13,14,15,16,17,18,19,20,21,22,23,24,25,26,27,28,29,30,31,32,33,34,35,36,37,38,39,40,41,42,43,44,45,46,47,48,50,51,52,53,54,55,56,57,58,59,60,61,62,63,64,65,66,67,68,69,70,71,72,73,74,75,77,78,79,80,81,82,83,84,85,86,87,88,89,90,91,92,93,94,95,96,97,98,99,100,104,105,107,108,109,110,111,112,113,114,115,116,117,118,119,120,121,122,123,124,125,126,127,128,130,131,132,133,134,135,136,137,138,139,140,142,143,147,148,149,150,151,152,153,154,155,156,157,158,159,160,161,162,163,164,165,166,167,168,169,170,171,172,173,174,175,176,177,178,179,180,183,186,187,188,189,190,191,192,193,194,195,196,197,198,199,200,201,202,203,204,205,206,207,208,209,210,211,212,213,214,215,216,217,218,219,220,221,222,223,224,232,233,234,235,236,237,238,239,240,241,242,244,245,246,247,248,250,251,252,253,254,255,256,257,259,260,261,262,263,264,265,266,267,268,269,270,271,272,273,274,275,276,277,278,279,280,283,284,285,286,287,288,289,290,291,292,293,294,295,296,297,298,299,300,301,302,303,304,305,308,310,311,313,316,317,318,319,320,324,327,330,331,332,333,334,335,336,337,338,339,343,344,348,349,350,351,362,363,364,365,366,367,368,369,371,372,378,379,384,385,386,387,389,391,398,399]
theorem QN{p:Nat→Bool}{l:List Nat}{n:Nat}(h:(l.take n).all p=true)(h2:(l.drop n).all p=true):l.all p=true:=by rw[←Si n l,List.all_append,h,h2];rfl
def goods0:List Nat:=goods
def goods1:List Nat:=goods0.drop 30
def goods2:List Nat:=goods1.drop 30
def goods3:List Nat:=goods2.drop 30
def goods4:List Nat:=goods3.drop 30
def goods5:List Nat:=goods4.drop 30
def goods6:List Nat:=goods5.drop 30
def goods7:List Nat:=goods6.drop 30
def goods8:List Nat:=goods7.drop 30
def goods9:List Nat:=goods8.drop 30
def goods10:List Nat:=goods9.drop 30
def goods11:List Nat:=goods10.drop 30
theorem ZtS:(goods0.take 30).all (ZaG prog dyn)=true:=by decide +kernel
theorem ZvI:(goods1.take 30).all (ZaG prog dyn)=true:=by decide +kernel
theorem ZtI:(goods2.take 30).all (ZaG prog dyn)=true:=by decide +kernel
theorem Zxc:(goods3.take 30).all (ZaG prog dyn)=true:=by decide +kernel
theorem ZwV:(goods4.take 30).all (ZaG prog dyn)=true:=by decide +kernel
theorem Ztm:(goods5.take 30).all (ZaG prog dyn)=true:=by decide +kernel
theorem ZuC:(goods6.take 30).all (ZaG prog dyn)=true:=by decide +kernel
theorem ZwF:(goods7.take 30).all (ZaG prog dyn)=true:=by decide +kernel
theorem Zv2:(goods8.take 30).all (ZaG prog dyn)=true:=by decide +kernel
theorem ZtN:(goods9.take 30).all (ZaG prog dyn)=true:=by decide +kernel
theorem ZsC:(goods10.take 30).all (ZaG prog dyn)=true:=by decide +kernel
theorem Zs4:goods11.all (ZaG prog dyn)=true:=by decide +kernel
theorem Zh6:goods.all (ZaG prog dyn)=true:=(QN (l:=goods0) (n:=30) ZtS (QN (l:=goods1) (n:=30) ZvI (QN (l:=goods2) (n:=30) ZtI (QN (l:=goods3) (n:=30) Zxc (QN (l:=goods4) (n:=30) ZwV (QN (l:=goods5) (n:=30) Ztm (QN (l:=goods6) (n:=30) ZuC (QN (l:=goods7) (n:=30) ZwF (QN (l:=goods8) (n:=30) Zv2 (QN (l:=goods9) (n:=30) ZtN (QN (l:=goods10) (n:=30) ZsC Zs4)))))))))))
def ownA(f:Nat):List (Nat×Nat×Nat) :=
 match f with
 |104| 364=>[(0,1,5)]
 |_=>[]
noncomputable def K0:Cfg:={P:=prog,prim:=prim,primH:=primH,ownA:=ownA,bT:=179,wrT:=wrT,wrE:=wrE,wrB:=wrB,nlT:=nlT,nlA:=nlA,live:=live,ret:=ret,good:=fun f=>goods.contains f,dyn:=dyn,out:=out,post:=post}
theorem K0_ok:CfgOk Lay K0 where
 prim:=ZlD
 primH:=ZnF
 good:=fun f h=>by
  have a:f∈goods:=by simpa[K0]using h
  exact ZhV (C:=K0) (Um.1 Zh6 f a)
 mixed:=by show prog.follows .mixedOrders=true;decide +kernel
end Go.Ab
