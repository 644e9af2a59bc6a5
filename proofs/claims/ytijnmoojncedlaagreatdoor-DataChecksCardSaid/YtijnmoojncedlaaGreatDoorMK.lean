/- What is proved: the configuration of the evaluator at this seat's program, with the library's functions by their contracts. What is proved: that the evaluator's configuration at this seat's program is right. Conditions: none. -/
import Derived.Test.YtijnmoojncedlaaGreatDoorMX3
import Derived.Shelf.Strings.SlTrimAscii
import Derived.Test.YtijnmoojncedlaaGreatDoorShelf
set_option linter.unusedSimpArgs false
set_option linter.unusedVariables false
namespace Go.Ab
open Go Go.Proofs
/-- What is asked of package-level variables. -/
def Ziq (w:World) (g:Nat):Prop:=∃ ev,w.cell? ⟨g,0,none⟩=some ev∧(ev=.nilIface∨∃ te pe,ev=.iface te pe)
def Lay (w:World):Prop:=(∃ m,w.cell? ⟨1,0,none⟩=some (.int .i64 m))∧(Ziq w 6∧Ziq w 7)∧Lib.TabIs Tryz.prog w "internal/strconv.uint64pow10" .u64 Lib.pow10Tab∧Lib.TabIs Tryz.prog w "strings.asciiSpace" .u8 Lib.asciiSpaceTab
def ZBR (n:Int):Bool:=decide (-9223372036854775808≤n)&&decide (n≤9223372036854775807)
def Za5:List AV→Option AV
 | [.bool b]=>some (.str (Lib.formatBool b))
 | _=>none
def Zrj:List AV→Option AV
 | [.int .i64 n]=>if ZBR n=true then some (.str (Lib.itoa n)) else none
 | _=>none
def ZaT:List AV→Option AV
 | [.str s,.str o,.str n]=>if decide (s.length < 4294967281)&&(decide (1≤o.length)&&decide (s.length+Lib.countB ⟨s.toArray⟩ ⟨o.toArray⟩*n.length≤140737488355328)) then some (.str (Lib.replaceAll s o n)) else none
 | _=>none
def Zb0:List AV→Option AV
 | [.str s,.str p]=>some (.bool (Lib.hasPrefix s p))
 | _=>none
def Zfa:List AV→Option AV
 | [.str s,.str p]=>some (.int .i64 (Lib.compareBytes s p))
 | _=>none
def Zvg:List AV→Option AV
 | [.str s,.str p]=>if decide (s.length < 4294967281) then some (.tup [.str (Lib.cut s p).1,.str (Lib.cut s p).2.1,.bool (Lib.cut s p).2.2]) else none
 | _=>none
def Zh9:List AV→Option AV
 | [.str s]=>if decide (s.length < 4294967281)&&s.all (fun b=>decide (b.toNat < 128)) then some (.rows ((Lib.fields s).map fun l=>[.str l])) else none
 | _=>none
def ZkT:List AV→Option AV
 | [.int .u64 x,.int .u64 y]=>if decide (0≤x∧x < 18446744073709551616∧0≤y∧y < 18446744073709551616) then some (.tup [.int .u64 (x*y / 18446744073709551616),.int .u64 (x*y % 18446744073709551616)]) else none
 | _=>none
def Zpd:List AV→Option AV
 | [.str s]=>if decide (s.length≤281474976710656) then some (match Lib.atoiAll s with
  | .ok v=>.tup [.int .i64 v,.nili]
  | .range=>.tup [.int .i64 (Lib.atoiSat s),.iface 495 .any]
  | _=>.tup [.int .i64 0,.iface 495 .any]) else none
 | _=>none
def Zcz:List AV→Option AV
 | [.str s,.int .i64 c]=>if decide (0≤c)&&(decide (c≤9223372036854775807)&&decide (s.length*c.toNat≤140737488355328)) then some (.str (Lib.repeatL s c.toNat)) else none
 | _=>none
def ZoM (s:List UInt8):Bool:=s.all fun b=>decide (b.toNat < 128)
def ZdI:List (List AV)→Option (List (List UInt8))
 | []=>some []
 | [.str s]::r=>match ZdI r with
  | some l=>some (s::l)
  | none=>none
 | _=>none
def Zkw:List AV→Option AV
 | [.rows rs,.str sep]=>match ZdI rs with
  | some l=>if decide (l.length≤140737488355328)&&decide ((Lib.join l sep).length≤140737488355328) then some (.str (Lib.join l sep)) else none
  | none=>none
 | _=>none
def Zi8:List AV→Option AV
 | [.str s,.str cs]=>if decide (s.length≤9223372036854775807)&&(decide (cs.length < 4294967281)&&ZoM cs) then some (.str (Lib.trimS s cs)) else none
 | _=>none
def ZkP:List AV→Option AV
 | [.str s,.str p]=>if decide (s.length < 4294967281)&&decide (1≤p.length) then some (.rows ((Lib.splitB ⟨p.toArray⟩ 0 (Lib.countB ⟨s.toArray⟩ ⟨p.toArray⟩) ⟨s.toArray⟩).map fun b=>[.str b.data.toList])) else none
 | _=>none
def ZbJ:List AV→Option AV
 | [.str s,.str p]=>if decide (s.length≤9223372036854775807) then some (.tup [.str (Lib.trimSuffix s p),.bool (Lib.hasSuffix s p)]) else none
 | _=>none
def WR:List AV→Option AV
 | [.str s,.int .u8 c]=>some (.int .i64 (Lib.indexByte s c.toNat.toUInt8))
 | _=>none
def ZfC:List AV→Option AV
 | [.int .u64 x]=>if decide (0≤x)&&decide (x≤18446744073709551615) then some (.int .i64 (Lib.bitLen x.toNat)) else none
 | _=>none
def primH (f:Nat) (args:List AV) (h:Zd):Option (AV×Zd) :=
 match f with
 | 202=>ZbP 184 args h
 | 117=>ZfG 184 5 args h
 | _=>none
def prim (f:Nat) (args:List AV):Option AV :=
 match f with
 | 119=>ZkP args
 | 118=>ZbJ args
 | 308=>WR args
 | 398=>WR args
 | 259=>ZfC args
 | 111=>Zkw args
 | 194=>Zi8 args
 | 314=>Za5 args
 | 315=>Zrj args
 | 316=>ZaT args
 | 113=>Zb0 args
 | 385=>Zfa args
 | 120=>Zvg args
 | 214=>Zh9 args
 | 200=>ZkT args
 | 458=>Zpd args
 | 72=>Zcz args
 | _=>none
theorem ZkQ {M:Nat→Nat→Prop} {w:World} {s p:List UInt8} (vs:List Value) (h:PRepL M w [.str s,.str p] vs):vs=[.string ⟨s.toArray⟩,.string ⟨p.toArray⟩]:=by
 obtain ⟨v,vr,rfl,h1,v2,vr2,rfl,h2,h3⟩:=h
 have e1:v=.string ⟨s.toArray⟩:=h1
 have e2:v2=.string ⟨p.toArray⟩:=h2
 have e3:vr2=[]:=h3
 rw [e1,e2,e3]
theorem Zk6 (w:World) (k:Nat) (os:Array Obj):RowKit.Below w.heap.size w (Sort.grow (w.drewN k) os) :=
 ⟨rfl,rfl,rfl,by simp [Sort.grow,World.drewN],fun b hb=>by simp only [Sort.grow,World.drewN];exact Array.getElem?_append_left hb⟩
def XZ (f:Nat) (p:List AV→Option AV):Prop:=∀ args v,p args=some v→Enters Tryz.prog f∧Yb Lay Tryz.prog f args [] v []
theorem ZfO:XZ 314 Za5:=by
 intro args v e
 unfold Za5 at e
 split at e
 ·rename_i b
  simp only [Option.some.injEq] at e
  subst e
  refine ⟨enters_of Tryz.func314 (by decide) rfl,X3 (vs0:=[.bool b]) (v:=.string ⟨(Lib.formatBool b).toArray⟩) (fun M w vs h=>?_) (fun _ _=>rfl) fun w _=>(Tryz.strconv_FormatBool b w).mono ?_⟩
  ·obtain ⟨v,vr,rfl,h1,h2⟩:=h
   have e1:v=.bool b:=h1
   have e2:vr=[]:=h2
   rw [e1,e2]
  ·rintro e w' ⟨rfl,rfl⟩
   exact ⟨rfl,Xg _⟩
 ·simp at e
theorem Zrh:XZ 315 Zrj:=by
 intro args v e
 unfold Zrj at e
 split at e
 ·rename_i n
  split at e
  ·rename_i hf
   simp only [ZBR,Bool.and_eq_true,decide_eq_true_eq] at hf
   simp only [Option.some.injEq] at e
   subst e
   refine ⟨enters_of Tryz.func315 (by decide) rfl,X3 (vs0:=[.int .i64 n]) (v:=.string ⟨(Lib.itoa n).toArray⟩) (fun M w vs h=>?_) (fun _ _=>rfl) fun w hw=>(Tryz.strconv_Itoa n hf.1 hf.2 w hw.2.2.1).mono ?_⟩
   ·obtain ⟨v,vr,rfl,h1,h2⟩:=h
    have e1:v=.int .i64 n:=h1
    have e2:vr=[]:=h2
    rw [e1,e2]
   ·rintro e w' ⟨rfl,k,os,rfl⟩
    exact ⟨rfl,Zk6 _ _ _⟩
  ·simp at e
 ·simp at e
theorem ZfI:XZ 316 ZaT:=by
 intro args v e
 unfold ZaT at e
 split at e
 ·rename_i s o n
  split at e
  ·rename_i hf
   simp only [Bool.and_eq_true,decide_eq_true_eq] at hf
   simp only [Option.some.injEq] at e
   subst e
   refine ⟨enters_of Tryz.func316 (by decide) rfl,X3 (vs0:=[.string ⟨s.toArray⟩,.string ⟨o.toArray⟩,.string ⟨n.toArray⟩]) (v:=.string ⟨(Lib.replaceAll s o n).toArray⟩) (fun M w vs h=>?_) (fun _ _=>rfl) fun w hw=>?_⟩
   ·obtain ⟨v,vr,rfl,h1,h2⟩:=h
    have e1:v=.string ⟨s.toArray⟩:=h1
    rw [e1,ZkQ vr h2]
   ·obtain ⟨m,hm⟩:=hw.1
    refine (Tryz.strings_ReplaceAll ⟨s.toArray⟩ ⟨o.toArray⟩ ⟨n.toArray⟩ m w (by simpa [ByteArray.size] using hf.1) hm (by simpa [ByteArray.size] using hf.2.1) (by simpa [ByteArray.size] using hf.2.2)).mono ?_
    rintro e w' ⟨rfl,hb⟩
    exact ⟨rfl,hb⟩
  ·simp at e
 ·simp at e
theorem Zf7:XZ 113 Zb0:=by
 intro args v e
 unfold Zb0 at e
 split at e
 ·rename_i s p
  simp only [Option.some.injEq] at e
  subst e
  refine ⟨enters_of Tryz.func113 (by decide) rfl,X3 (vs0:=[.string ⟨s.toArray⟩,.string ⟨p.toArray⟩]) (v:=.bool (Lib.hasPrefix s p)) (fun M w vs h=>ZkQ vs h) (fun _ _=>rfl) fun w _=>(Tryz.strings_HasPrefix _ _ w).mono ?_⟩
  rintro e w' ⟨rfl,rfl⟩
  exact ⟨rfl,Xg _⟩
 ·simp at e
theorem ZjI:XZ 385 Zfa:=by
 intro args v e
 unfold Zfa at e
 split at e
 ·rename_i s p
  simp only [Option.some.injEq] at e
  subst e
  refine ⟨enters_of Tryz.func385 (by decide) rfl,X3 (vs0:=[.string ⟨s.toArray⟩,.string ⟨p.toArray⟩]) (v:=.int .i64 (Lib.compareBytes s p)) (fun M w vs h=>ZkQ vs h) (fun _ _=>rfl) fun w _=>(Tryz.strings_Compare _ _ w).mono ?_⟩
  rintro e w' ⟨rfl,rfl⟩
  exact ⟨rfl,Xg _⟩
 ·simp at e
theorem ZrL:XZ 120 Zvg:=by
 intro args v e
 unfold Zvg at e
 split at e
 ·rename_i s p
  split at e
  ·rename_i hf
   simp only [decide_eq_true_eq] at hf
   simp only [Option.some.injEq] at e
   subst e
   refine ⟨enters_of Tryz.func120 (by decide) rfl,X3 (vs0:=[.string ⟨s.toArray⟩,.string ⟨p.toArray⟩]) (v:=.tuple #[.string ⟨(Lib.cut s p).1.toArray⟩,.string ⟨(Lib.cut s p).2.1.toArray⟩,.bool (Lib.cut s p).2.2]) (fun M w vs h=>ZkQ vs h) (fun _ _=>⟨_,rfl,_,_,rfl,rfl,_,_,rfl,rfl,_,_,rfl,rfl,rfl⟩) fun w hw=>?_⟩
   obtain ⟨m,hm⟩:=hw.1
   refine (Tryz.strings_Cut ⟨s.toArray⟩ ⟨p.toArray⟩ m w (by simpa [ByteArray.size] using hf) hm).mono ?_
   rintro e w' ⟨rfl,n,rfl⟩
   exact ⟨rfl,ZiJ _ _⟩
  ·simp at e
 ·simp at e
theorem ZkH:XZ 214 Zh9:=by
 intro args v e
 unfold Zh9 at e
 split at e
 ·rename_i s
  split at e
  ·rename_i hf
   simp only [Bool.and_eq_true,decide_eq_true_eq,List.all_eq_true] at hf
   simp only [Option.some.injEq] at e
   subst e
   refine ⟨enters_of Tryz.func214 (by decide) rfl,Zh2 (vs0:=[.string ⟨s.toArray⟩]) (fun M w vs h=>?_) fun w hw=>?_⟩
   ·obtain ⟨v,vr,rfl,h1,h2⟩:=h
    have e1:v=.string ⟨s.toArray⟩:=h1
    have e2:vr=[]:=h2
    rw [e1,e2]
   ·refine (Tryz.strings_Fields ⟨s.toArray⟩ w (by simpa [ByteArray.size] using hf.1) (fun j b hb=>hf.2 b (List.mem_of_getElem? (by simpa using hb))) hw.2.2.2).mono ?_
    rintro e w' ⟨rfl,rfl⟩
    refine ⟨_,rfl,⟨rfl,rfl,rfl,by simp,fun b hb=>YV _ hb⟩,fun M hM=>⟨some ⟨w.heap.size,0,none⟩,(Lib.fields s).length,by simp,by simp,.inr ⟨w.heap.size,0,1,rfl,PRows.of_at _ _ fun i row hrow=>?_⟩⟩⟩
    rw [List.getElem?_map] at hrow
    cases hl:(Lib.fields s)[i]? with
    | none=>simp [hl] at hrow
    | some l =>
     simp only [hl,Option.map_some,Option.some.injEq] at hrow
     subst hrow
     refine ⟨rfl,rfl,⟨.string ⟨l.toArray⟩,?_,fun hx=>?_,rfl⟩,trivial⟩
     ·simp only [World.cell?,YH]
      simp [hl]
     ·have:=hM _ _ hx
      omega
  ·simp at e
 ·simp at e
theorem Zol:XZ 200 ZkT:=by
 intro args v e
 unfold ZkT at e
 split at e
 ·rename_i x y
  split at e
  ·rename_i hf
   simp only [decide_eq_true_eq] at hf
   simp only [Option.some.injEq] at e
   subst e
   obtain ⟨x,rfl⟩:=Int.eq_ofNat_of_zero_le hf.1
   obtain ⟨y,rfl⟩:=Int.eq_ofNat_of_zero_le hf.2.2.1
   refine ⟨enters_of Tryz.func200 (by decide) rfl,X3 (vs0:=[.int .u64 x,.int .u64 y]) (v:=.tuple #[.int .u64 ((x*y / 18446744073709551616:Nat):Int),.int .u64 ((x*y % 18446744073709551616:Nat):Int)]) (fun M w vs h=>?_) (fun _ _=>⟨_,rfl,_,_,rfl,by simp [PRep],_,_,rfl,by simp [PRep],rfl⟩) fun w _=>(Tryz.bits_Mul64 x y (by omega) (by omega) w).mono ?_⟩
   ·obtain ⟨v,vr,rfl,h1,v2,vr2,rfl,h2,h3⟩:=h
    have e1:v=.int .u64 x:=h1
    have e2:v2=.int .u64 y:=h2
    have e3:vr2=[]:=h3
    rw [e1,e2,e3]
   ·rintro e w' ⟨rfl,rfl⟩
    exact ⟨rfl,Xg _⟩
  ·simp at e
 ·simp at e
theorem ZFo {M:Nat→Nat→Prop} {w:World} {s:List UInt8} (vs:List Value) (h:PRepL M w [.str s] vs):vs=[.string ⟨s.toArray⟩]:=by
 obtain ⟨v,vr,rfl,h1,h2⟩:=h
 have e1:v=.string ⟨s.toArray⟩:=h1
 have e2:vr=[]:=h2
 rw [e1,e2]
theorem Zo0:XZ 458 Zpd:=by
 intro args v e
 unfold Zpd at e
 split at e
 ·rename_i s
  split at e
  ·rename_i hl
   simp only [decide_eq_true_eq] at hl
   simp only [Option.some.injEq] at e
   subst e
   refine ⟨enters_of Tryz.func458 (by decide) rfl,Zh2 (vs0:=[.string ⟨s.toArray⟩]) (fun M w vs h=>ZFo vs h) fun w hw=>?_⟩
   have hsz:(⟨s.toArray⟩:ByteArray).size=s.length:=rfl
   cases ha:Lib.atoiAll s with
   | ok v =>
    refine (Tryz.strconv_Atoi_ok ⟨s.toArray⟩ (by rw [hsz];omega) v ha w).mono ?_
    rintro e w' ⟨rfl,hb⟩
    refine ⟨_,rfl,?_,fun M _=>⟨_,rfl,_,_,rfl,rfl,_,_,rfl,rfl,rfl⟩⟩
    rcases hb with rfl | ⟨t,rfl⟩
    ·exact Xg _
    ·exact Lib.bytesWorld_below _ _ _
   | range =>
    obtain ⟨ev,h1,h2⟩:=hw.2.1.2
    refine (Tryz.strconv_Atoi_range ⟨s.toArray⟩ (by rw [hsz];exact hl) ha ev w h1 h2).mono ?_
    rintro e w' ⟨N,rfl,_,_,hb⟩
    exact ⟨_,rfl,hb,fun M _=>⟨_,rfl,_,_,rfl,rfl,_,_,rfl,⟨_,rfl,trivial⟩,rfl⟩⟩
   | _ =>
    obtain ⟨ev,h1,h2⟩:=hw.2.1.1
    refine (Tryz.strconv_Atoi_syntax ⟨s.toArray⟩ (by rw [hsz];exact hl) ha ev w h1 h2).mono ?_
    rintro e w' ⟨N,rfl,_,_,hb⟩
    exact ⟨_,rfl,hb,fun M _=>⟨_,rfl,_,_,rfl,rfl,_,_,rfl,⟨_,rfl,trivial⟩,rfl⟩⟩
  ·simp at e
 ·simp at e
theorem ZlA:XZ 72 Zcz:=by
 intro args v e
 unfold Zcz at e
 split at e
 ·rename_i s c
  split at e
  ·rename_i hf
   simp only [Bool.and_eq_true,decide_eq_true_eq] at hf
   simp only [Option.some.injEq] at e
   subst e
   obtain ⟨c,rfl⟩:=Int.eq_ofNat_of_zero_le hf.1
   refine ⟨enters_of Tryz.func72 (by decide) rfl,X3 (vs0:=[.string ⟨s.toArray⟩,.int .i64 c]) (v:=.string ⟨(Lib.repeatL s c).toArray⟩) (fun M w vs h=>?_) (fun _ _=>rfl) fun w _=>(Tryz.strings_Repeat ⟨s.toArray⟩ c w (by omega) (by simpa [ByteArray.size] using hf.2.2)).mono ?_⟩
   ·obtain ⟨v,vr,rfl,h1,v2,vr2,rfl,h2,h3⟩:=h
    have e1:v=.string ⟨s.toArray⟩:=h1
    have e2:v2=.int .i64 c:=h2
    have e3:vr2=[]:=h3
    rw [e1,e2,e3]
   ·rintro e w' ⟨rfl,hb⟩
    exact ⟨rfl,hb⟩
  ·simp at e
 ·simp at e
theorem Zeh:∀ (rs:List (List AV)) (l:List (List UInt8)),ZdI rs=some l→rs=l.map fun s=>[.str s]
 | [],l,e=>by simp only [ZdI,Option.some.injEq] at e;subst e;rfl
 | row::r,l,e=>by
  unfold ZdI at e
  split at e
  ·simp at *
  ·rename_i s r' heq
   obtain ⟨rfl,rfl⟩:=List.cons.inj heq
   split at e
   ·rename_i l' hl
    simp only [Option.some.injEq] at e
    subst e
    rw [Zeh r l' hl];rfl
   ·simp at e
  ·simp at e
theorem ZfH:∀ l:List (List UInt8),(l.map fun s:List UInt8=>(⟨s.toArray⟩:ByteArray)).map (·.data.toList)=l
 | []=>rfl
 | s::l=>by
  simp only [List.map_cons]
  rw [ZfH l]
theorem Zqd:XZ 111 Zkw:=by
 intro args v e
 unfold Zkw at e
 split at e
 ·rename_i rs sep
  split at e
  ·rename_i l hl
   split at e
   ·rename_i hf
    simp only [Bool.and_eq_true,decide_eq_true_eq] at hf
    simp only [Option.some.injEq] at e
    subst e
    have hrs:=Zeh rs l hl
    subst hrs
    refine ⟨enters_of Tryz.func111 (by decide) rfl,ZpA (v:=.string ⟨(Lib.join l sep).toArray⟩) (fun _ _=>rfl) fun M w vs _ ha=>?_⟩
    obtain ⟨v1,vr,rfl,h1,v2,vr2,rfl,h2,h3⟩:=ha
    have h2:v2=.string ⟨sep.toArray⟩:=h2
    have h3:vr2=[]:=h3
    subst h2;subst h3
    obtain ⟨base,cap,rfl,hc,hb⟩:=h1
    have hlen:(l.map fun s:List UInt8=>[AV.str s]).length=(l.map fun s:List UInt8=>(⟨s.toArray⟩:ByteArray)).length:=by simp
    have hmap:=ZfH l
    rw [hlen] at hc ⊢
    cases l with
    | nil =>
     refine (Tryz.strings_Join_none base cap ⟨sep.toArray⟩ w).mono ?_
     rintro e w' ⟨rfl,rfl⟩
     exact ⟨rfl,Xg _⟩
    | cons s0 l0 =>
     rcases hb with hb | ⟨b,o,z,rfl,hp⟩
     ·simp at hb
     have hz:z=1:=(PRows.at _ o hp 0 [.str s0] rfl).1.symm
     subst hz
     have hcell:∀ (j:Nat) (x:ByteArray),((s0::l0).map fun s:List UInt8=>(⟨s.toArray⟩:ByteArray))[j]? = some x→w.cell? ⟨b,o+j,none⟩=some (.string x):=fun j x hx=>by
      rw [List.getElem?_map] at hx
      cases hs:(s0::l0)[j]? with
      | none=>rw [hs] at hx;simp at hx
      | some s =>
       rw [hs] at hx
       simp only [Option.map_some,Option.some.injEq] at hx
       subst hx
       obtain ⟨_,_,hm⟩:=PRows.at _ o hp j [.str s] (by rw [List.getElem?_map,hs];rfl)
       obtain ⟨⟨u,hu,_,hr⟩,_⟩:=hm
       have hr:u=.string ⟨s.toArray⟩:=hr
       subst hr
       simpa using hu
     have hbk:b < w.heap.size:=by
      have:=hcell 0 _ rfl
      rcases Nat.lt_or_ge b w.heap.size with h' | h'
      ·exact h'
      ·simp [World.cell?,Array.getElem?_eq_none h'] at this
     refine (Tryz.strings_Join b o cap _ ⟨sep.toArray⟩ w hcell hbk (by simpa using hf.1) hc (by rw [hmap];exact hf.2)).mono ?_
     rintro e w' ⟨rfl,hb⟩
     exact ⟨by rw [hmap],hb⟩
   ·simp at e
  ·simp at e
 ·simp at e
theorem Zrk:XZ 194 Zi8:=by
 intro args v e
 unfold Zi8 at e
 split at e
 ·rename_i s cs
  split at e
  ·rename_i hf
   simp only [Bool.and_eq_true,decide_eq_true_eq,ZoM,List.all_eq_true] at hf
   simp only [Option.some.injEq] at e
   subst e
   refine ⟨enters_of Tryz.func194 (by decide) rfl,X3 (vs0:=[.string ⟨s.toArray⟩,.string ⟨cs.toArray⟩]) (v:=.string ⟨(Lib.trimS s cs).toArray⟩) (fun M w vs h=>ZkQ vs h) (fun _ _=>rfl) fun w _=>(Any.strings_Trim_laid Tryz.lays160 (by kernel_rfl) ⟨s.toArray⟩ ⟨cs.toArray⟩ w (by simpa [ByteArray.size] using hf.1) (by simpa [ByteArray.size] using hf.2.1) (fun j b hb=>hf.2.2 b (List.mem_of_getElem? (by simpa using hb)))).mono ?_⟩
   rintro e w' ⟨rfl,hb⟩
   exact ⟨rfl,hb⟩
  ·simp at e
 ·simp at e
theorem Zn5:XZ 119 ZkP:=by
 intro args v e
 unfold ZkP at e
 split at e
 ·rename_i s p
  split at e
  ·rename_i hf
   simp only [Bool.and_eq_true,decide_eq_true_eq] at hf
   simp only [Option.some.injEq] at e
   subst e
   have hlen:(Lib.splitB ⟨p.toArray⟩ 0 (Lib.countB ⟨s.toArray⟩ ⟨p.toArray⟩) ⟨s.toArray⟩).length=Lib.countB ⟨s.toArray⟩ ⟨p.toArray⟩+1:=Lib.splitB_all _ (by simpa [ByteArray.size] using hf.2) 0 _ _ rfl
   refine ⟨enters_of Tryz.func119 (by decide) rfl,Zh2 (vs0:=[.string ⟨s.toArray⟩,.string ⟨p.toArray⟩]) (fun M w vs h=>ZkQ vs h) fun w hw=>?_⟩
   obtain ⟨m,hm⟩:=hw.1
   refine (Tryz.strings_Split ⟨s.toArray⟩ ⟨p.toArray⟩ m w (by simpa [ByteArray.size] using hf.1) hm (by simpa [ByteArray.size] using hf.2)).mono ?_
   rintro e w' ⟨rfl,rfl⟩
   refine ⟨_,rfl,⟨rfl,rfl,rfl,by simp,fun b hb=>YV _ hb⟩,fun M hM=>⟨some ⟨w.heap.size,0,none⟩,Lib.countB ⟨s.toArray⟩ ⟨p.toArray⟩+1,by simp [hlen],by simp [hlen],.inr ⟨w.heap.size,0,1,rfl,PRows.of_at _ _ fun i row hrow=>?_⟩⟩⟩
   rw [List.getElem?_map] at hrow
   cases hl:(Lib.splitB ⟨p.toArray⟩ 0 (Lib.countB ⟨s.toArray⟩ ⟨p.toArray⟩) ⟨s.toArray⟩)[i]? with
   | none=>simp [hl] at hrow
   | some l =>
    simp only [hl,Option.map_some,Option.some.injEq] at hrow
    subst hrow
    refine ⟨rfl,rfl,⟨.string l,?_,fun hx=>?_,rfl⟩,trivial⟩
    ·simp only [World.cell?,YH]
     simp [hl]
    ·have:=hM _ _ hx
     omega
  ·simp at e
 ·simp at e
theorem Zgi:XZ 118 ZbJ:=by
 intro args v e
 unfold ZbJ at e
 split at e
 ·rename_i s p
  split at e
  ·rename_i hf
   simp only [decide_eq_true_eq] at hf
   simp only [Option.some.injEq] at e
   subst e
   refine ⟨enters_of Tryz.func118 (by decide) rfl,X3 (vs0:=[.string ⟨s.toArray⟩,.string ⟨p.toArray⟩]) (v:=.tuple #[.string ⟨(Lib.trimSuffix s p).toArray⟩,.bool (Lib.hasSuffix s p)]) (fun M w vs h=>ZkQ vs h) (fun _ _=>⟨_,rfl,_,_,rfl,rfl,_,_,rfl,rfl,rfl⟩) fun w _=>(Tryz.strings_CutSuffix ⟨s.toArray⟩ ⟨p.toArray⟩ w (by simpa [ByteArray.size] using hf)).mono ?_⟩
   rintro e w' ⟨rfl,rfl⟩
   exact ⟨rfl,Xg _⟩
  ·simp at e
 ·simp at e
theorem Zqt {M:Nat→Nat→Prop} {w:World} {s:List UInt8} {k:IntKind} {c:Int} (vs:List Value) (h:PRepL M w [.str s,.int k c] vs):vs=[.string ⟨s.toArray⟩,.int k c]:=by
 obtain ⟨v,vr,rfl,h1,v2,vr2,rfl,h2,h3⟩:=h
 have e1:v=.string ⟨s.toArray⟩:=h1
 have e2:v2=.int k c:=h2
 have e3:vr2=[]:=h3
 rw [e1,e2,e3]
theorem Zgd:XZ 308 WR:=by
 intro args v e
 unfold WR at e
 split at e
 ·rename_i s c
  simp only [Option.some.injEq] at e
  subst e
  refine ⟨enters_of Tryz.func308 (by decide) rfl,X3 (vs0:=[.string ⟨s.toArray⟩,.int .u8 c]) (v:=.int .i64 (Lib.indexByte s c.toNat.toUInt8)) (fun M w vs h=>Zqt vs h) (fun _ _=>rfl) fun w _=>(Tryz.strings_IndexByte ⟨s.toArray⟩ c w).mono ?_⟩
  rintro e w' ⟨rfl,rfl⟩
  exact ⟨rfl,Xg _⟩
 ·simp at e
theorem Zf1:XZ 398 WR:=by
 intro args v e
 unfold WR at e
 split at e
 ·rename_i s c
  simp only [Option.some.injEq] at e
  subst e
  refine ⟨enters_of Tryz.func398 (by decide) rfl,X3 (vs0:=[.string ⟨s.toArray⟩,.int .u8 c]) (v:=.int .i64 (Lib.indexByte s c.toNat.toUInt8)) (fun M w vs h=>Zqt vs h) (fun _ _=>rfl) fun w _=>(Tryz.stringslite_IndexByte ⟨s.toArray⟩ c w).mono ?_⟩
  rintro e w' ⟨rfl,rfl⟩
  exact ⟨rfl,Xg _⟩
 ·simp at e
theorem Zjn:XZ 259 ZfC:=by
 intro args v e
 unfold ZfC at e
 split at e
 ·rename_i x
  split at e
  ·rename_i hf
   simp only [Bool.and_eq_true,decide_eq_true_eq] at hf
   simp only [Option.some.injEq] at e
   subst e
   refine ⟨enters_of Tryz.func259 (by decide) rfl,X3 (vs0:=[.int .u64 x]) (v:=.int .i64 (Lib.bitLen x.toNat)) (fun M w vs h=>?_) (fun _ _=>rfl) fun w _=>(Tryz.bits_Len x w hf.1 hf.2).mono ?_⟩
   ·obtain ⟨v,vr,rfl,h1,h2⟩:=h
    have e1:v=.int .u64 x:=h1
    have e2:vr=[]:=h2
    rw [e1,e2]
   ·rintro e w' ⟨rfl,rfl⟩
    exact ⟨rfl,Xg _⟩
  ·simp at e
 ·simp at e
theorem Ziz:∀ f args h r h',primH f args h=some (r,h')→Enters Tryz.prog f∧Yb Lay Tryz.prog f args h r h':=by
 intro f args h r h' e
 unfold primH at e
 split at e
 ·exact ⟨enters_of Tryz.func202 (by decide) rfl,Zc7 (ρ:=Tryz.lays155_ren) { Tryz.lays155 with } Tryz.Builder_Extra_155.toX72 e⟩
 ·exact ⟨enters_of Tryz.func117 (by decide) rfl,ZfB (ρ:=Tryz.lays155_ren) { Tryz.lays155 with } Tryz.Builder_Extra_155 e⟩
 ·simp at e
theorem ZmB:∀ f args v,prim f args=some v→Enters Tryz.prog f∧Yb Lay Tryz.prog f args [] v []:=by
 intro f args v e
 unfold prim at e
 split at e
 ·exact Zn5 args v e
 ·exact Zgi args v e
 ·exact Zgd args v e
 ·exact Zf1 args v e
 ·exact Zjn args v e
 ·exact Zqd args v e
 ·exact Zrk args v e
 ·exact ZfO args v e
 ·exact Zrh args v e
 ·exact ZfI args v e
 ·exact Zf7 args v e
 ·exact ZjI args v e
 ·exact ZrL args v e
 ·exact ZkH args v e
 ·exact Zol args v e
 ·exact Zo0 args v e
 ·exact ZlA args v e
 ·simp at e
end Go.Ab
namespace Go.Ab
open Go Go.Proofs
/-- Open regions: what an operation may not touch. -/
def dyn (f r:Nat):List (Nat×Nat) :=
 match f with
 | 4=>if r=5 then [(8,20)] else (if r=9 then [(6,37),(6,45),(6,48),(14,37),(14,38),(14,45)] else (if r=14 then [(5,73)] else (if r=25 then [(7,132),(7,7),(7,140),(10,132)] else ([]))))
 | 5=>if r=10 then [(10,46),(11,47)] else ([])
 | 7=>if r=4 then [(6,16)] else (if r=7 then [(12,41)] else (if r=10 then [(16,66),(16,67),(16,69),(18,66),(18,67),(18,69)] else (if r=16 then [(14,113)] else ([]))))
 | 9=>if r=4 then [(6,15)] else (if r=7 then [(10,35),(12,35)] else (if r=13 then [(10,75),(12,75)] else (if r=15 then [(10,92),(13,92)] else (if r=19 then [(5,129),(5,130),(5,131),(8,129),(8,130),(8,131),(16,124),(16,127),(16,129),(16,130),(16,131)] else (if r=21 then [(5,160),(5,161),(8,160),(8,161),(13,150),(13,153),(13,160),(13,161),(20,150),(20,153),(20,155),(20,158),(20,160),(20,161)] else ([]))))))
 | 14=>if r=3 then [(4,18)] else (if r=8 then [(8,37)] else (if r=14 then [(4,69),(10,73)] else ([])))
 | 62=>if r=5 then [(6,13),(6,15),(8,13)] else ([])
 | 71=>if r=2 then [(2,9),(7,7),(7,10)] else ([])
 | 74=>if r=10 then [(7,51),(8,51)] else (if r=13 then [(7,71)] else (if r=15 then [(7,90)] else (if r=18 then [(7,124)] else (if r=22 then [(11,153)] else (if r=24 then [(7,172)] else (if r=26 then [(7,187)] else ([])))))))
 | 77=>if r=5 then [(2,18)] else (if r=6 then [(2,26),(5,26)] else ([]))
 | 81=>if r=6 then [(5,39)] else ([])
 | 82=>if r=15 then [(14,65),(14,68)] else ([])
 | 108=>if r=6 then [(15,33),(15,34)] else ([])
 | 109=>if r=19 then [(7,66)] else ([])
 | 114=>if r=3 then [(4,16)] else ([])
 | 117=>if r=1 then [(4,10)] else ([])
 | 143=>if r=1 then [(6,12)] else ([])
 | 151=>if r=7 then [(11,37),(13,37),(15,37)] else (if r=10 then [(6,70),(6,76)] else ([]))
 | 152=>if r=5 then [(12,40),(17,42)] else ([])
 | 167=>if r=1 then [(0,15),(0,16),(0,18),(0,19),(0,21),(0,22),(0,24),(0,25),(0,27),(4,18),(4,19),(4,20),(4,21),(4,22),(4,23),(4,24),(4,25),(4,26),(4,27),(4,28),(8,17),(8,21),(8,22),(8,23),(8,24),(8,25),(8,26),(8,27),(8,28),(12,17),(12,20),(12,24),(12,25),(12,26),(12,27),(12,28),(16,17),(16,20),(16,23),(16,27),(16,28),(19,15),(19,16),(19,17),(19,18),(19,19),(19,20),(19,21),(19,22),(19,23),(19,24),(19,25),(19,26)] else ([])
 | 198=>if r=16 then [(13,68),(13,69)] else (if r=18 then [(7,82)] else (if r=28 then [(13,114)] else (if r=29 then [(14,144)] else ([]))))
 | 203=>if r=0 then [(4,16)] else ([])
 | 243=>if r=1 then [(3,10),(5,12)] else ([])
 | 248=>if r=5 then [(5,23)] else ([])
 | 252=>if r=8 then [(7,52)] else (if r=9 then [(7,4)] else (if r=15 then [(15,4)] else (if r=16 then [(23,4)] else ([]))))
 | 258=>if r=17 then [(13,94)] else ([])
 | 261=>if r=17 then [(13,94)] else ([])
 | 262=>if r=17 then [(13,94)] else ([])
 | 263=>if r=1 then [(8,10)] else ([])
 | 264=>if r=12 then [(11,63)] else ([])
 | 265=>if r=1 then [(8,10)] else ([])
 | 267=>if r=4 then [(7,1),(7,18),(7,24),(7,26),(7,29)] else ([])
 | 277=>if r=1 then [(8,16)] else ([])
 | 278=>if r=17 then [(13,94)] else ([])
 | 281=>if r=6 then [(6,31)] else ([])
 | 328=>if r=11 then [(23,4)] else ([])
 | 329=>if r=4 then [(14,32)] else ([])
 | 334=>if r=5 then [(14,33)] else (if r=16 then [(10,82)] else (if r=22 then [(10,122)] else ([])))
 | 335=>if r=3 then [(13,44)] else (if r=5 then [(13,63)] else ([]))
 | 336=>if r=3 then [(13,45)] else (if r=5 then [(13,63)] else (if r=13 then [(13,118)] else (if r=15 then [(13,136)] else ([]))))
 | 339=>if r=4 then [(14,32)] else ([])
 | 344=>if r=5 then [(14,33)] else (if r=16 then [(10,82)] else (if r=22 then [(10,122)] else ([])))
 | 345=>if r=3 then [(13,44)] else (if r=5 then [(13,63)] else ([]))
 | 346=>if r=3 then [(13,45)] else (if r=5 then [(13,63)] else (if r=13 then [(13,118)] else (if r=15 then [(13,136)] else ([]))))
 | 347=>if r=4 then [(14,32)] else ([])
 | 352=>if r=5 then [(14,33)] else (if r=16 then [(10,82)] else (if r=22 then [(10,122)] else ([])))
 | 353=>if r=3 then [(13,44)] else (if r=5 then [(13,63)] else ([]))
 | 354=>if r=3 then [(13,45)] else (if r=5 then [(13,63)] else (if r=13 then [(13,118)] else (if r=15 then [(13,136)] else ([]))))
 | 355=>if r=8 then [(3,65),(12,74),(22,84)] else ([])
 | 356=>if r=1 then [(10,16)] else ([])
 | 359=>if r=1 then [(3,12),(3,16),(3,18),(3,21),(3,23),(7,16),(7,18),(7,21),(7,23)] else ([])
 | 365=>if r=2 then [(16,37)] else ([])
 | 366=>if r=3 then [(6,24)] else ([])
 | 367=>if r=2 then [(7,20),(24,37)] else ([])
 | 369=>if r=1 then [(8,13)] else ([])
 | 376=>if r=4 then [(14,32)] else ([])
 | 381=>if r=5 then [(14,33)] else (if r=16 then [(10,82)] else (if r=22 then [(10,122)] else ([])))
 | 382=>if r=3 then [(13,44)] else (if r=5 then [(13,63)] else ([]))
 | 383=>if r=3 then [(13,45)] else (if r=5 then [(13,63)] else (if r=13 then [(13,118)] else (if r=15 then [(13,136)] else ([]))))
 | 402=>if r=11 then [(12,65)] else (if r=33 then [(3,137)] else ([]))
 | 406=>if r=2 then [(8,16)] else ([])
 | 419=>if r=3 then [(19,38)] else (if r=5 then [(13,56)] else ([]))
 | 424=>if r=3 then [(19,38)] else (if r=5 then [(13,56)] else ([]))
 | 427=>if r=3 then [(19,38)] else (if r=5 then [(13,56)] else ([]))
 | 435=>if r=3 then [(19,38)] else (if r=5 then [(13,56)] else ([]))
 | 475=>if r=1 then [(9,21)] else ([])
 | 476=>if r=1 then [(9,21)] else ([])
 | 477=>if r=1 then [(9,21)] else ([])
 | 480=>if r=1 then [(9,21)] else ([])
 | 483=>if r=5 then [(9,49)] else (if r=17 then [(9,101)] else (if r=35 then [(11,169)] else ([])))
 | _=>[]
/-- Slices Z6 making that are written, too, by type. -/
def wrT (t:Nat):Bool :=
 match t with
 | 22=>true
 | 26=>true
 | 30=>true
 | 43=>true
 | 72=>true
 | 77=>true
 | 90=>true
 | 91=>true
 | _=>false
/-- Slice literals whose elements keep their nil slices, by type. -/
def nlT (t:Nat):Bool :=
 match t with
 | 26=>true
 | 30=>true
 | 43=>true
 | 45=>true
 | 46=>true
 | 90=>true
 | 91=>true
 | _=>false
/-- Functions that are handed nil slices as such. -/
def nlA (f:Nat):Bool :=
 match f with
 | 162=>true
 | 242=>true
 | _=>false
/-- How results are handed back. -/
def ret (f:Nat):Nat :=
 match f with
 | 19=>1
 | 21=>1
 | 23=>3
 | 24=>3
 | 29=>1
 | 30=>1
 | 31=>1
 | 34=>1
 | 35=>1
 | 62=>3
 | 74=>3
 | 81=>3
 | 124=>2
 | 125=>2
 | 229=>11
 | 242=>2
 | 250=>16
 | 445=>2
 | 454=>2
 | _=>0
/-- Loops: the slots that live from round to round; slices that the loop makes; slices that nothing writes any more. -/
def live (f b:Nat):Option (List Nat×List (Nat×Option Nat×Nat×Bool)×List Nat) :=
 match f with
 | 3=>match b with
  | 0=>some ([3,4,5,16,17],[],[])
  | _=>none
 | 4=>match b with
  | 0=>some ([0,2,3,16,17],[(3,some 0,5,false)],[])
  | 2=>some ([0,2,3,34,35],[],[])
  | 4=>some ([0,2,3,5,6,7,34,35,67,68,69],[(7,some 1,1,false)],[])
  | 6=>some ([0,2,3,5,6,7,10,34,35,67,68,69,85,86,87],[],[])
  | _=>none
 | 5=>match b with
  | 0=>some ([0,2,4,6,7,8,22],[],[])
  | 2=>some ([0,2,4,6,7,8,22,24,25,26],[],[])
  | 4=>some ([0,2,4,6,7,8,11,22,24,25,26,33,34],[],[])
  | _=>none
 | 11=>match b with
  | 0=>some ([2,3,7,38,39,40],[],[])
  | 2=>some ([2,3,7,8,9,38,39,40,54,55,56],[],[])
  | _=>none
 | 14=>match b with
  | 0=>some ([0,4,5,33,34],[],[])
  | 2=>some ([0,4,5,51,52],[(5,some 4,3,false)],[])
  | 4=>some ([0,4,5,8,51,52,74,75,76],[(8,some 1,1,false)],[])
  | _=>none
 | 16=>match b with
  | 0=>some ([0,1,7,8],[],[])
  | _=>none
 | 22=>match b with
  | 0=>some ([1,19,20,21],[],[])
  | 2=>some ([1,49,50,51],[],[])
  | 4=>some ([1,8,49,50,51,56,57,58],[],[])
  | 6=>some ([1,8,10,11,49,50,51,56,57,58,84,85,86],[],[])
  | _=>none
 | 23=>match b with
  | 0=>some ([3,10,11,12],[(3,some 1,2,true)],[])
  | _=>none
 | 25=>match b with
  | 0=>some ([1,2,3,4,14,15,16],[(3,none,1,false)],[])
  | 2=>some ([1,2,3,4,5,6,14,15,16,23,24],[(3,none,1,false)],[])
  | 4=>some ([1,2,3,4],[],[])
  | 6=>some ([1,2,3,4,69,70,71],[],[])
  | _=>none
 | 27=>match b with
  | 0=>some ([0,5,10,11,12],[(5,none,3,true)],[])
  | _=>none
 | 28=>match b with
  | 0=>some ([0,2,15,16,17],[],[])
  | _=>none
 | 32=>match b with
  | 0=>some ([0,2,3],[],[])
  | _=>none
 | 36=>match b with
  | 0=>some ([0,2,6,7,24,25,26],[],[])
  | _=>none
 | 41=>match b with
  | 0=>some ([1,2,15,16,17],[],[])
  | _=>none
 | 43=>match b with
  | 0=>some ([1,7,8],[],[])
  | _=>none
 | 46=>match b with
  | 0=>some ([2,3,7,8,12,13,14],[(8,none,3,false)],[])
  | _=>none
 | 51=>match b with
  | 0=>some ([2,3,4,23,24,25],[],[])
  | 2=>some ([2,4,41,42,43],[],[])
  | 4=>some ([2,4,9,10,41,42,43,61,62,63],[],[])
  | _=>none
 | 52=>match b with
  | 0=>some ([2,3,5,25,26,27],[],[])
  | 2=>some ([2,3,5,6,7,25,26,27,41,42,43],[],[])
  | 4=>some ([2,3,5,64,65,66],[],[])
  | 6=>some ([2,3,5,12,13,64,65,66,72,73,74],[],[])
  | 8=>some ([2,3,5,12,13,15,64,65,66,72,73,74,83,84,85],[],[])
  | _=>none
 | 54=>match b with
  | 0=>some ([0,1,5,9,10],[(5,none,1,true)],[])
  | 2=>some ([0,5,7],[],[])
  | _=>none
 | 56=>match b with
  | 0=>some ([0,1,7,8],[],[])
  | _=>none
 | 57=>match b with
  | 0=>some ([0,1,7,8],[],[])
  | _=>none
 | 60=>match b with
  | 0=>some ([1,41,42,43],[],[])
  | 3=>some ([1,77,78,79],[],[])
  | 6=>some ([1,106,107,108],[],[])
  | 8=>some ([1,138,139,140],[],[])
  | _=>none
 | 62=>match b with
  | 0=>some ([2,3,7,8,9],[(3,some 0,2,true)],[])
  | _=>none
 | 63=>match b with
  | 0=>some ([1,3,4,18,19,20],[],[])
  | 2=>some ([1,3,4,5,18,19,20,31,32,33],[],[])
  | 4=>some ([3,4,48,49],[],[])
  | 6=>some ([3,4,9,48,49,52,53],[],[])
  | 8=>some ([3,4,9,10,48,49,52,53,56,57],[],[])
  | _=>none
 | 71=>match b with
  | 0=>some ([0,3,4,18,19],[],[])
  | _=>none
 | 75=>match b with
  | 0=>some ([1,3,19,20,21],[(3,none,1,false)],[])
  | 2=>some ([1,3,19,20,21,32,33,34],[(3,none,1,false)],[])
  | 4=>some ([3,46,47,48],[(3,none,1,false)],[])
  | 6=>some ([3,9,46,47,48,58,59,60],[(3,none,1,false)],[])
  | 8=>some ([3,9,46,47,48,71,72,73],[(3,none,1,false)],[])
  | 10=>some ([3,9,46,47,48,84,85,86],[(3,none,1,false)],[])
  | 12=>some ([3,46,47,48,99,100,101],[(3,none,1,false)],[])
  | _=>none
 | 77=>match b with
  | 0=>some ([2,3,9,10,11],[(3,none,5,true)],[])
  | 2=>some ([2,3,5,9,10,11,33,34],[],[])
  | 4=>some ([2,3,5,9,10,11,52,53],[],[])
  | _=>none
 | 78=>match b with
  | 0=>some ([1,2,3,14,15],[(3,none,5,true)],[])
  | 2=>some ([1,2,3,5,14,15,35,36,37],[(3,none,5,true)],[])
  | 4=>some ([2,3,77,78,79],[],[])
  | _=>none
 | 79=>match b with
  | 0=>some ([3,14,15,16],[(3,none,1,false)],[])
  | 2=>some ([3,5,14,15,16,27,28,29],[(3,none,1,false)],[])
  | 4=>some ([3,5,14,15,16,47,48,49],[(3,none,1,false)],[])
  | 6=>some ([3,14,15,16,66,67,68],[(3,none,1,false)],[])
  | _=>none
 | 81=>match b with
  | 0=>some ([2,5,18,19,20],[],[])
  | 2=>some ([2,5,7,18,19,20,39,40,41],[],[])
  | _=>none
 | 82=>match b with
  | 0=>some ([0,2,3,4,27,28,29],[],[])
  | 2=>some ([0,2,3,4,45,46,47],[],[])
  | 4=>some ([0,2,3,4,8,45,46,47,54,55,56],[],[])
  | 6=>some ([2,3,4,88,89,90],[],[])
  | 8=>some ([2,4,122,123,124],[],[])
  | _=>none
 | 83=>match b with
  | 0=>some ([6,7,8],[],[])
  | _=>none
 | 97=>match b with
  | 0=>some ([3,8,9,10],[(3,none,1,false)],[])
  | 3=>some ([3,6,7,8,9,10],[(3,none,1,false)],[])
  | _=>none
 | 99=>match b with
  | 0=>some ([2,3,16,17,18],[],[])
  | _=>none
 | 100=>match b with
  | 0=>some ([1,2,5],[],[])
  | _=>none
 | 101=>match b with
  | 0=>some ([1,3,8,9,13,14,15],[(8,none,3,true)],[])
  | _=>none
 | 105=>match b with
  | 0=>some ([1,2,7,8,9],[],[])
  | _=>none
 | 107=>match b with
  | 0=>some ([0,1,7,8],[],[])
  | _=>none
 | 109=>match b with
  | 0=>some ([0,6,37,38,39],[],[])
  | 2=>some ([0,6,52,53,54],[],[])
  | _=>none
 | 125=>match b with
  | 0=>some ([0,4,5,6,101,102,103],[],[])
  | _=>none
 | 127=>match b with
  | 0=>some ([0,1,7,8,9],[],[])
  | _=>none
 | 128=>match b with
  | 0=>some ([3,62,63,64],[],[])
  | _=>none
 | 129=>match b with
  | 0=>some ([3,25,26,27],[],[])
  | _=>none
 | 141=>match b with
  | 0=>some ([0,3,9,10,11],[],[])
  | 2=>some ([6,25,26,27],[(6,none,1,false)],[])
  | _=>none
 | 151=>match b with
  | 0=>some ([1,2,5,15,16,17],[(5,none,5,true)],[])
  | _=>none
 | 153=>match b with
  | 0=>some ([1,3,5,6,7,8,10,42,43,44],[],[])
  | _=>none
 | 164=>match b with
  | 0=>some ([2,5,6,16,17,18],[(5,none,5,false),(6,none,5,false)],[])
  | 2=>some ([2,5,6,9,16,17,18,28,29,30],[(5,none,5,false)],[])
  | 4=>some ([2,5,6,9,16,17,18,52,53,54],[(6,none,5,false)],[])
  | _=>none
 | 165=>match b with
  | 0=>some ([2,5,13,14,15],[(5,none,10,false)],[])
  | 3=>some ([2,5,7,13,14,15,25,26,27],[(5,none,10,false)],[])
  | _=>none
 | 166=>match b with
  | 0=>some ([0,6,35,36,37],[(6,none,1,false)],[])
  | _=>none
 | 167=>match b with
  | 0=>some ([0,4,5,7,36,37,38],[],[])
  | 2=>some ([7,11,62,63,64],[(11,none,3,true)],[])
  | _=>none
 | 191=>match b with
  | 0=>some ([1,2,14,15,16],[],[])
  | 2=>some ([1,2,6,7,14,15,16,21,22,23],[],[])
  | _=>none
 | 192=>match b with
  | 0=>some ([3,7,8,9],[(3,none,1,false)],[])
  | 3=>some ([3,5,6,7,8,9],[(3,none,1,false)],[])
  | _=>none
 | 196=>match b with
  | 0=>some ([0,12,13,14],[],[])
  | _=>none
 | 197=>match b with
  | 0=>some ([0,23,24,25],[],[])
  | 2=>some ([0,5,6,23,24,25,53,54,55],[],[])
  | 4=>some ([0,5,6,10,23,24,25,53,54,55,60,61,62],[],[])
  | 6=>some ([0,5,6,23,24,25,105,106,107],[],[])
  | 8=>some ([0,5,6,23,24,25,137,138,139],[],[])
  | _=>none
 | 198=>match b with
  | 0=>some ([0,1,4,6,21,22,23],[],[])
  | 2=>some ([0,1,4,10,47,48,49],[],[])
  | 4=>some ([0,4,10,98,99,100],[],[])
  | _=>none
 | 207=>match b with
  | 0=>some ([0,1,8,9],[],[])
  | _=>none
 | 209=>match b with
  | 0=>some ([0,3,4,5,8,9],[(3,none,1,false)],[])
  | _=>none
 | 229=>match b with
  | 0=>some ([2,5,6,24,25,26],[(5,none,1,false)],[])
  | 2=>some ([2,5,6,8,24,25,26,41,42,43],[(5,none,1,false)],[])
  | 4=>some ([2,5,6,24,25,26,54,55,56],[(5,none,1,false)],[])
  | _=>none
 | 239=>match b with
  | 0=>some ([0,1,2,9,10],[],[])
  | _=>none
 | 240=>match b with
  | 0=>some ([2,5,10,11,12],[(5,none,7,false)],[])
  | _=>none
 | 241=>match b with
  | 0=>some ([1,2,3],[],[])
  | _=>none
 | 247=>match b with
  | 0=>some ([1,2,3,10,11,12],[],[])
  | _=>none
 | 248=>match b with
  | 0=>some ([2,5,12,13,14],[(5,none,3,false)],[])
  | 2=>some ([2,5,12,13,14,23,24,25],[(5,none,3,false)],[])
  | _=>none
 | 249=>match b with
  | 0=>some ([1,2,5,9,10,11],[(5,none,1,true)],[])
  | _=>none
 | 250=>match b with
  | 0=>some ([1,2,3,7,11,12,13],[(7,none,6,true)],[])
  | _=>none
 | 252=>match b with
  | 0=>some ([3,4,5,6,7,34,35,36],[],[])
  | 2=>some ([3,4,5,6,7,68,69,70],[],[])
  | _=>none
 | 254=>match b with
  | 0=>some ([0,1,7,8],[],[])
  | _=>none
 | 258=>match b with
  | 0=>some ([0,1,2,3,4,10,11],[],[])
  | _=>none
 | 261=>match b with
  | 0=>some ([0,1,2,3,4,10,11],[],[])
  | _=>none
 | 262=>match b with
  | 0=>some ([0,1,2,3,4,10,11],[],[])
  | _=>none
 | 267=>match b with
  | 0=>some ([1,10,11,12],[],[])
  | _=>none
 | 272=>match b with
  | 0=>some ([1,2,5],[(5,none,1,true)],[])
  | _=>none
 | 273=>match b with
  | 0=>some ([3,9,10,11],[(3,none,7,false)],[])
  | _=>none
 | 274=>match b with
  | 0=>some ([1,2,8,9],[],[])
  | _=>none
 | 278=>match b with
  | 0=>some ([0,1,2,3,4,10,11],[],[])
  | _=>none
 | 284=>match b with
  | 1=>some ([1,23,24],[],[])
  | _=>none
 | 286=>match b with
  | 0=>some ([0,1,2,11,12,13],[],[])
  | _=>none
 | 296=>match b with
  | 0=>some ([6,7,8],[],[])
  | _=>none
 | 297=>match b with
  | 0=>some ([1,2,15,16,17],[],[])
  | _=>none
 | 307=>match b with
  | 1=>some ([0,1,5,6,7,8,9,10],[],[])
  | _=>none
 | 319=>match b with
  | 0=>some ([0,1,7,8],[],[])
  | _=>none
 | 322=>match b with
  | 0=>some ([0,1,7,8],[],[])
  | _=>none
 | 323=>match b with
  | 0=>some ([0,1,7,8],[],[])
  | _=>none
 | 325=>match b with
  | 0=>some ([0,1,7,8],[],[])
  | _=>none
 | 327=>match b with
  | 0=>some ([2,3,6,16,17,18],[(6,none,1,true)],[])
  | _=>none
 | 328=>match b with
  | 0=>some ([1,2,3,4,5,14,15,16],[],[])
  | 2=>some ([1,2,3,4,5,9,11,14,15,16,21,22,23],[(11,none,1,false)],[])
  | _=>none
 | 329=>match b with
  | 0=>some ([0,1,2,3,8],[],[])
  | 2=>some ([0,1,2,3,8,9],[],[])
  | _=>none
 | 330=>match b with
  | 0=>some ([0,3,8,9,10,11],[],[])
  | 2=>some ([0,3,8,9,12],[],[])
  | _=>none
 | 331=>match b with
  | 0=>some ([0,1,8,9,10,11],[],[])
  | _=>none
 | 333=>match b with
  | 0=>some ([0,8,9],[],[])
  | _=>none
 | 334=>match b with
  | 0=>some ([0,1,2,3,9,10],[],[])
  | 2=>some ([0,1,2,3,9,10],[],[])
  | 4=>some ([0,1,2,3,9,10,11],[],[])
  | 6=>some ([0,1,2,3,9,10,12],[],[])
  | _=>none
 | 335=>match b with
  | 0=>some ([0,1,4,11,12],[],[])
  | 2=>some ([0,1,4,11,12],[],[])
  | 4=>some ([0,1,4,11,12],[],[])
  | _=>none
 | 336=>match b with
  | 0=>some ([0,1,4,12,13],[],[])
  | 2=>some ([0,1,4,12,13],[],[])
  | 4=>some ([0,1,4,12,13],[],[])
  | 6=>some ([0,1,4,12,13],[],[])
  | 8=>some ([0,1,4,12,13],[],[])
  | _=>none
 | 339=>match b with
  | 0=>some ([0,1,2,3,8],[],[])
  | 2=>some ([0,1,2,3,8,9],[],[])
  | _=>none
 | 340=>match b with
  | 0=>some ([0,3,8,9,10,11],[],[])
  | 2=>some ([0,3,8,9,12],[],[])
  | _=>none
 | 341=>match b with
  | 0=>some ([0,1,8,9,10,11],[],[])
  | _=>none
 | 343=>match b with
  | 0=>some ([0,8,9],[],[])
  | _=>none
 | 344=>match b with
  | 0=>some ([0,1,2,3,9,10],[],[])
  | 2=>some ([0,1,2,3,9,10],[],[])
  | 4=>some ([0,1,2,3,9,10,11],[],[])
  | 6=>some ([0,1,2,3,9,10,12],[],[])
  | _=>none
 | 345=>match b with
  | 0=>some ([0,1,4,11,12],[],[])
  | 2=>some ([0,1,4,11,12],[],[])
  | 4=>some ([0,1,4,11,12],[],[])
  | _=>none
 | 346=>match b with
  | 0=>some ([0,1,4,12,13],[],[])
  | 2=>some ([0,1,4,12,13],[],[])
  | 4=>some ([0,1,4,12,13],[],[])
  | 6=>some ([0,1,4,12,13],[],[])
  | 8=>some ([0,1,4,12,13],[],[])
  | _=>none
 | 347=>match b with
  | 0=>some ([0,1,2,3,8],[],[])
  | 2=>some ([0,1,2,3,8,9],[],[])
  | _=>none
 | 348=>match b with
  | 0=>some ([0,3,8,9,10,11],[],[])
  | 2=>some ([0,3,8,9,12],[],[])
  | _=>none
 | 349=>match b with
  | 0=>some ([0,1,8,9,10,11],[],[])
  | _=>none
 | 351=>match b with
  | 0=>some ([0,8,9],[],[])
  | _=>none
 | 352=>match b with
  | 0=>some ([0,1,2,3,9,10],[],[])
  | 2=>some ([0,1,2,3,9,10],[],[])
  | 4=>some ([0,1,2,3,9,10,11],[],[])
  | 6=>some ([0,1,2,3,9,10,12],[],[])
  | _=>none
 | 353=>match b with
  | 0=>some ([0,1,4,11,12],[],[])
  | 2=>some ([0,1,4,11,12],[],[])
  | 4=>some ([0,1,4,11,12],[],[])
  | _=>none
 | 354=>match b with
  | 0=>some ([0,1,4,12,13],[],[])
  | 2=>some ([0,1,4,12,13],[],[])
  | 4=>some ([0,1,4,12,13],[],[])
  | 6=>some ([0,1,4,12,13],[],[])
  | 8=>some ([0,1,4,12,13],[],[])
  | _=>none
 | 371=>match b with
  | 0=>some ([0,1,7,8],[],[])
  | _=>none
 | 372=>match b with
  | 0=>some ([0,2,3],[],[])
  | _=>none
 | 373=>match b with
  | 0=>some ([0,1,7,8],[],[])
  | _=>none
 | 376=>match b with
  | 0=>some ([0,1,2,3,8],[],[])
  | 2=>some ([0,1,2,3,8,9],[],[])
  | _=>none
 | 377=>match b with
  | 0=>some ([0,3,8,9,10,11],[],[])
  | 2=>some ([0,3,8,9,12],[],[])
  | _=>none
 | 378=>match b with
  | 0=>some ([0,1,8,9,10,11],[],[])
  | _=>none
 | 380=>match b with
  | 0=>some ([0,8,9],[],[])
  | _=>none
 | 381=>match b with
  | 0=>some ([0,1,2,3,9,10],[],[])
  | 2=>some ([0,1,2,3,9,10],[],[])
  | 4=>some ([0,1,2,3,9,10,11],[],[])
  | 6=>some ([0,1,2,3,9,10,12],[],[])
  | _=>none
 | 382=>match b with
  | 0=>some ([0,1,4,11,12],[],[])
  | 2=>some ([0,1,4,11,12],[],[])
  | 4=>some ([0,1,4,11,12],[],[])
  | _=>none
 | 383=>match b with
  | 0=>some ([0,1,4,12,13],[],[])
  | 2=>some ([0,1,4,12,13],[],[])
  | 4=>some ([0,1,4,12,13],[],[])
  | 6=>some ([0,1,4,12,13],[],[])
  | 8=>some ([0,1,4,12,13],[],[])
  | _=>none
 | 391=>match b with
  | 0=>some ([0,1,7,8],[],[])
  | _=>none
 | 393=>match b with
  | 0=>some ([0,1,12,13],[],[])
  | _=>none
 | 402=>match b with
  | 2=>some ([0,2,10],[(10,some 9,13,false)],[])
  | _=>none
 | 405=>match b with
  | 0=>some ([1,2,21,22,23],[],[])
  | _=>none
 | 406=>match b with
  | 1=>some ([0,82,83,84],[],[])
  | _=>none
 | 410=>match b with
  | 0=>some ([2,3,4,5],[],[])
  | 2=>some ([2,3,4,5,6],[],[])
  | _=>none
 | 412=>match b with
  | 0=>some ([1,2,23,24,25],[],[])
  | _=>none
 | 414=>match b with
  | 0=>some ([3,7,8,9],[],[])
  | _=>none
 | 418=>match b with
  | 0=>some ([4,7,8,9],[],[])
  | _=>none
 | 419=>match b with
  | 0=>some ([0,2,3,4,10],[],[])
  | _=>none
 | 424=>match b with
  | 0=>some ([0,2,3,4,10],[],[])
  | _=>none
 | 427=>match b with
  | 0=>some ([0,2,3,4,10],[],[])
  | _=>none
 | 432=>match b with
  | 0=>some ([3,6,7,8],[],[])
  | _=>none
 | 434=>match b with
  | 0=>some ([1,4,7,8,34,35,36],[(8,none,3,true)],[])
  | _=>none
 | 435=>match b with
  | 0=>some ([0,2,3,4,10],[],[])
  | _=>none
 | 442=>match b with
  | 0=>some ([0,1,2,6,7,8],[],[])
  | 2=>some ([0,1,2,6],[],[])
  | 4=>some ([0,1,2,6,7,8],[],[])
  | _=>none
 | 447=>match b with
  | 0=>some ([0,3],[],[])
  | _=>none
 | 450=>match b with
  | 0=>some ([0,1,5],[],[])
  | _=>none
 | 452=>match b with
  | 0=>some ([0,3],[],[])
  | _=>none
 | 457=>match b with
  | 0=>some ([0,2,3,14,15],[],[])
  | _=>none
 | 464=>match b with
  | 0=>some ([0,5,6],[],[])
  | _=>none
 | 472=>match b with
  | 0=>some ([0,7,8,9],[],[])
  | _=>none
 | 483=>match b with
  | 0=>some ([0,1,4,10,11],[],[])
  | 2=>some ([0,10,13],[],[])
  | 4=>some ([0,2,4,14,15],[],[])
  | 6=>some ([0,14,17],[],[])
  | 8=>some ([0,1,2,3,4,18,19,20,21,22],[],[])
  | _=>none
 | 485=>match b with
  | 0=>some ([0,3],[],[])
  | _=>none
 | 487=>match b with
  | 0=>some ([0,1,3,4,5,12,13,14],[],[])
  | _=>none
 | 495=>match b with
  | 0=>some ([0,2,4,10,11],[],[])
  | _=>none
 | 506=>match b with
  | 0=>some ([0,1,2,3,10],[],[])
  | _=>none
 | _=>none
/-- Behind loops: the slots that live on. -/
def out (f b:Nat):Option (List Nat) :=
 match f with
 | 3=>match b with
  | 0=>some [3,4,5]
  | _=>none
 | 4=>match b with
  | 0=>some [0,2,3]
  | 2=>some [2,3]
  | 4=>some [0,2,3,5,7,34,35]
  | 6=>some [0,2,3,5,6,7,34,35,67,68,69]
  | _=>none
 | 5=>match b with
  | 0=>some [6,7]
  | 2=>some [0,2,4,6,7,8,22]
  | 4=>some [0,2,4,6,7,8,22,24,25,26]
  | _=>none
 | 11=>match b with
  | 0=>some [2,3,7]
  | 2=>some [2,3,7,38,39,40]
  | _=>none
 | 14=>match b with
  | 0=>some [0,4,5]
  | 2=>some [4,5]
  | 4=>some [0,4,5,8,51,52]
  | _=>none
 | 16=>match b with
  | 0=>some []
  | _=>none
 | 22=>match b with
  | 0=>some [1]
  | 2=>some []
  | 4=>some [1,49,50,51]
  | 6=>some [1,8,49,50,51,56,57,58]
  | _=>none
 | 23=>match b with
  | 0=>some [3]
  | _=>none
 | 25=>match b with
  | 0=>some [1,2,3,4]
  | 2=>some [1,2,3,4,14,15,16]
  | 4=>some [2,3]
  | 6=>some [1,2,3,4]
  | _=>none
 | 27=>match b with
  | 0=>some [5]
  | _=>none
 | 28=>match b with
  | 0=>some [0,2]
  | _=>none
 | 32=>match b with
  | 0=>some []
  | _=>none
 | 36=>match b with
  | 0=>some [0,2,6,7]
  | _=>none
 | 41=>match b with
  | 0=>some []
  | _=>none
 | 43=>match b with
  | 0=>some []
  | _=>none
 | 46=>match b with
  | 0=>some [7,8]
  | _=>none
 | 51=>match b with
  | 0=>some [2,3,4]
  | 2=>some []
  | 4=>some [2,4,9,10,41,42,43]
  | _=>none
 | 52=>match b with
  | 0=>some [2,3,5]
  | 2=>some [2,3,5,25,26,27]
  | 4=>some []
  | 6=>some [2,3,5,64,65,66]
  | 8=>some [2,3,5,12,13,64,65,66,72,73,74]
  | _=>none
 | 54=>match b with
  | 0=>some [0,1,5]
  | 2=>some [5]
  | _=>none
 | 56=>match b with
  | 0=>some []
  | _=>none
 | 57=>match b with
  | 0=>some []
  | _=>none
 | 60=>match b with
  | 0=>some [1]
  | 3=>some [1]
  | 6=>some [1]
  | 8=>some []
  | _=>none
 | 62=>match b with
  | 0=>some [2,3]
  | _=>none
 | 63=>match b with
  | 0=>some [3,4]
  | 2=>some [1,3,4,18,19,20]
  | 4=>some [4]
  | 6=>some [3,4,48,49]
  | 8=>some [3,4,9,48,49,52,53]
  | _=>none
 | 71=>match b with
  | 0=>some [4]
  | _=>none
 | 75=>match b with
  | 0=>some [1,3]
  | 2=>some [1,3,19,20,21]
  | 4=>some [3]
  | 6=>some [3,9,46,47,48]
  | 8=>some [3,9,46,47,48]
  | 10=>some [3,9,46,47,48]
  | 12=>some [3,46,47,48]
  | _=>none
 | 77=>match b with
  | 0=>some [2,3]
  | 2=>some [2,3,5,9,10,11]
  | 4=>some [2,3,5,9,10,11]
  | _=>none
 | 78=>match b with
  | 0=>some [2,3]
  | 2=>some [1,2,3,14,15]
  | 4=>some [2,3]
  | _=>none
 | 79=>match b with
  | 0=>some [3]
  | 2=>some [3,5,14,15,16]
  | 4=>some [3,5,14,15,16]
  | 6=>some [3,14,15,16]
  | _=>none
 | 81=>match b with
  | 0=>some [5]
  | 2=>some [2,5,18,19,20]
  | _=>none
 | 82=>match b with
  | 0=>some [0,2,3,4]
  | 2=>some [0,2,3,4]
  | 4=>some [0,2,3,4,45,46,47]
  | 6=>some [2,3,4]
  | 8=>some [2,4]
  | _=>none
 | 83=>match b with
  | 0=>some []
  | _=>none
 | 97=>match b with
  | 0=>some [3]
  | 3=>some [3,8,9,10]
  | _=>none
 | 99=>match b with
  | 0=>some []
  | _=>none
 | 100=>match b with
  | 0=>some [1,2]
  | _=>none
 | 101=>match b with
  | 0=>some [8,9]
  | _=>none
 | 105=>match b with
  | 0=>some []
  | _=>none
 | 107=>match b with
  | 0=>some []
  | _=>none
 | 109=>match b with
  | 0=>some [0,6]
  | 2=>some [0,6]
  | _=>none
 | 125=>match b with
  | 0=>some [0,4,5,6]
  | _=>none
 | 127=>match b with
  | 0=>some [1]
  | _=>none
 | 128=>match b with
  | 0=>some [3]
  | _=>none
 | 129=>match b with
  | 0=>some [3]
  | _=>none
 | 141=>match b with
  | 0=>some [0,3]
  | 2=>some [6]
  | _=>none
 | 151=>match b with
  | 0=>some [5]
  | _=>none
 | 153=>match b with
  | 0=>some [1,3,5,6,7,8,10]
  | _=>none
 | 164=>match b with
  | 0=>some [5,6]
  | 2=>some [2,5,6,9,16,17,18]
  | 4=>some [2,5,6,16,17,18]
  | _=>none
 | 165=>match b with
  | 0=>some [5]
  | 3=>some [2,5,13,14,15]
  | _=>none
 | 166=>match b with
  | 0=>some [6]
  | _=>none
 | 167=>match b with
  | 0=>some [4,7]
  | 2=>some [11]
  | _=>none
 | 191=>match b with
  | 0=>some []
  | 2=>some [1,2,14,15,16]
  | _=>none
 | 192=>match b with
  | 0=>some [3]
  | 3=>some [3,7,8,9]
  | _=>none
 | 196=>match b with
  | 0=>some []
  | _=>none
 | 197=>match b with
  | 0=>some []
  | 2=>some [0,5,6,23,24,25]
  | 4=>some [0,5,6,23,24,25,53,54,55]
  | 6=>some [0,5,6,23,24,25]
  | 8=>some [0,23,24,25]
  | _=>none
 | 198=>match b with
  | 0=>some [0,1,4]
  | 2=>some [0,1,4,10]
  | 4=>some [4,10]
  | _=>none
 | 207=>match b with
  | 0=>some [0]
  | _=>none
 | 209=>match b with
  | 0=>some [0,3,5]
  | _=>none
 | 229=>match b with
  | 0=>some [5]
  | 2=>some [2,5,6,8,24,25,26]
  | 4=>some [2,5,6,24,25,26]
  | _=>none
 | 239=>match b with
  | 0=>some []
  | _=>none
 | 240=>match b with
  | 0=>some [5]
  | _=>none
 | 241=>match b with
  | 0=>some [1,2]
  | _=>none
 | 247=>match b with
  | 0=>some [1,2,3]
  | _=>none
 | 248=>match b with
  | 0=>some [5]
  | 2=>some [2,5,12,13,14]
  | _=>none
 | 249=>match b with
  | 0=>some [5]
  | _=>none
 | 250=>match b with
  | 0=>some [1,2,3,7]
  | _=>none
 | 252=>match b with
  | 0=>some [3,4,5,6,7]
  | 2=>some [4,5,6]
  | _=>none
 | 254=>match b with
  | 0=>some []
  | _=>none
 | 258=>match b with
  | 0=>some []
  | _=>none
 | 261=>match b with
  | 0=>some []
  | _=>none
 | 262=>match b with
  | 0=>some []
  | _=>none
 | 267=>match b with
  | 0=>some [1]
  | _=>none
 | 272=>match b with
  | 0=>some [5]
  | _=>none
 | 273=>match b with
  | 0=>some [3]
  | _=>none
 | 274=>match b with
  | 0=>some []
  | _=>none
 | 278=>match b with
  | 0=>some []
  | _=>none
 | 284=>match b with
  | 1=>some []
  | _=>none
 | 286=>match b with
  | 0=>some [0,1]
  | _=>none
 | 296=>match b with
  | 0=>some []
  | _=>none
 | 297=>match b with
  | 0=>some []
  | _=>none
 | 307=>match b with
  | 1=>some []
  | _=>none
 | 319=>match b with
  | 0=>some []
  | _=>none
 | 322=>match b with
  | 0=>some []
  | _=>none
 | 323=>match b with
  | 0=>some []
  | _=>none
 | 325=>match b with
  | 0=>some []
  | _=>none
 | 327=>match b with
  | 0=>some [2,3,6]
  | _=>none
 | 328=>match b with
  | 0=>some []
  | 2=>some [1,2,3,4,5,9,11,14,15,16]
  | _=>none
 | 329=>match b with
  | 0=>some []
  | 2=>some [0,1,2,3,8]
  | _=>none
 | 330=>match b with
  | 0=>some [0,3,8,9,10]
  | 2=>some []
  | _=>none
 | 331=>match b with
  | 0=>some []
  | _=>none
 | 333=>match b with
  | 0=>some []
  | _=>none
 | 334=>match b with
  | 0=>some []
  | 2=>some [0,1,2,3,9,10]
  | 4=>some [0,1,2,3,9,10]
  | 6=>some [0,1,2,3,9,10]
  | _=>none
 | 335=>match b with
  | 0=>some [11]
  | 2=>some [0,1,4,11,12]
  | 4=>some [0,1,4,11,12]
  | _=>none
 | 336=>match b with
  | 0=>some [0,1,4,12,13]
  | 2=>some [0,1,4,12,13]
  | 4=>some [0,1,13]
  | 6=>some [0,1,4,12,13]
  | 8=>some [0,1,4,12,13]
  | _=>none
 | 339=>match b with
  | 0=>some []
  | 2=>some [0,1,2,3,8]
  | _=>none
 | 340=>match b with
  | 0=>some [0,3,8,9,10]
  | 2=>some []
  | _=>none
 | 341=>match b with
  | 0=>some []
  | _=>none
 | 343=>match b with
  | 0=>some []
  | _=>none
 | 344=>match b with
  | 0=>some []
  | 2=>some [0,1,2,3,9,10]
  | 4=>some [0,1,2,3,9,10]
  | 6=>some [0,1,2,3,9,10]
  | _=>none
 | 345=>match b with
  | 0=>some [11]
  | 2=>some [0,1,4,11,12]
  | 4=>some [0,1,4,11,12]
  | _=>none
 | 346=>match b with
  | 0=>some [0,1,4,12,13]
  | 2=>some [0,1,4,12,13]
  | 4=>some [0,1,13]
  | 6=>some [0,1,4,12,13]
  | 8=>some [0,1,4,12,13]
  | _=>none
 | 347=>match b with
  | 0=>some []
  | 2=>some [0,1,2,3,8]
  | _=>none
 | 348=>match b with
  | 0=>some [0,3,8,9,10]
  | 2=>some []
  | _=>none
 | 349=>match b with
  | 0=>some []
  | _=>none
 | 351=>match b with
  | 0=>some []
  | _=>none
 | 352=>match b with
  | 0=>some []
  | 2=>some [0,1,2,3,9,10]
  | 4=>some [0,1,2,3,9,10]
  | 6=>some [0,1,2,3,9,10]
  | _=>none
 | 353=>match b with
  | 0=>some [11]
  | 2=>some [0,1,4,11,12]
  | 4=>some [0,1,4,11,12]
  | _=>none
 | 354=>match b with
  | 0=>some [0,1,4,12,13]
  | 2=>some [0,1,4,12,13]
  | 4=>some [0,1,13]
  | 6=>some [0,1,4,12,13]
  | 8=>some [0,1,4,12,13]
  | _=>none
 | 371=>match b with
  | 0=>some []
  | _=>none
 | 372=>match b with
  | 0=>some []
  | _=>none
 | 373=>match b with
  | 0=>some []
  | _=>none
 | 376=>match b with
  | 0=>some []
  | 2=>some [0,1,2,3,8]
  | _=>none
 | 377=>match b with
  | 0=>some [0,3,8,9,10]
  | 2=>some []
  | _=>none
 | 378=>match b with
  | 0=>some []
  | _=>none
 | 380=>match b with
  | 0=>some []
  | _=>none
 | 381=>match b with
  | 0=>some []
  | 2=>some [0,1,2,3,9,10]
  | 4=>some [0,1,2,3,9,10]
  | 6=>some [0,1,2,3,9,10]
  | _=>none
 | 382=>match b with
  | 0=>some [11]
  | 2=>some [0,1,4,11,12]
  | 4=>some [0,1,4,11,12]
  | _=>none
 | 383=>match b with
  | 0=>some [0,1,4,12,13]
  | 2=>some [0,1,4,12,13]
  | 4=>some [0,1,13]
  | 6=>some [0,1,4,12,13]
  | 8=>some [0,1,4,12,13]
  | _=>none
 | 391=>match b with
  | 0=>some []
  | _=>none
 | 393=>match b with
  | 0=>some []
  | _=>none
 | 402=>match b with
  | 2=>some [0,2,10]
  | _=>none
 | 405=>match b with
  | 0=>some [1,2]
  | _=>none
 | 406=>match b with
  | 1=>some [0]
  | _=>none
 | 410=>match b with
  | 0=>some [2,3,4,5]
  | 2=>some [2,3,4,5,6]
  | _=>none
 | 412=>match b with
  | 0=>some []
  | _=>none
 | 414=>match b with
  | 0=>some []
  | _=>none
 | 418=>match b with
  | 0=>some [4]
  | _=>none
 | 419=>match b with
  | 0=>some []
  | _=>none
 | 424=>match b with
  | 0=>some []
  | _=>none
 | 427=>match b with
  | 0=>some []
  | _=>none
 | 432=>match b with
  | 0=>some [3]
  | _=>none
 | 434=>match b with
  | 0=>some [4,8]
  | _=>none
 | 435=>match b with
  | 0=>some []
  | _=>none
 | 442=>match b with
  | 0=>some [0,1,2,6,7]
  | 2=>some []
  | 4=>some [0,1,2,6,7]
  | _=>none
 | 447=>match b with
  | 0=>some []
  | _=>none
 | 450=>match b with
  | 0=>some [0,5]
  | _=>none
 | 452=>match b with
  | 0=>some []
  | _=>none
 | 457=>match b with
  | 0=>some [0,2,3]
  | _=>none
 | 464=>match b with
  | 0=>some []
  | _=>none
 | 472=>match b with
  | 0=>some []
  | _=>none
 | 483=>match b with
  | 0=>some [0,1,10]
  | 2=>some []
  | 4=>some [0,2,14]
  | 6=>some []
  | 8=>some [0,1,2,3,4,18,19,20]
  | _=>none
 | 485=>match b with
  | 0=>some []
  | _=>none
 | 487=>match b with
  | 0=>some [3,4,5,12,13]
  | _=>none
 | 495=>match b with
  | 0=>some [0,2,4,10]
  | _=>none
 | 506=>match b with
  | 0=>some []
  | _=>none
 | _=>none
/-- Behind regions: the slots that live on, and what is done with slices. -/
def post (f:Nat):List (Nat×List Nat×List Pop) :=
 match f with
 | 4=>[(7,[0,2,3,34,35],[.cell 3 0]),(25,[0,2,3,13,34,35],[.cell 13 0])]
 | 7=>[(13,[0,3,4,5,6,52,54,91],[.whenT 91,.keep [0,3,4,5,6,52,54,91],.opt 52 0]),(19,[0,3,4,5,133],[.whenT 133,.opt 5 1,.keep [0,3,4,133],.cell 3 0])]
 | 14=>[(10,[0,4,5,51,52],[.cell 5 1,.cell 5 2])]
 | 23=>[(7,[2],[.cell 2 1])]
 | 36=>[(12,[2,7,48],[.cell 7 0,.cell 7 1])]
 | _=>[]
/-- The functions whose code is checked. -/
def goods:List Nat:=[3,4,5,6,7,8,9,10,11,12,13,14,15,16,17,18,19,20,21,22,23,24,25,26,27,28,29,30,31,32,33,34,35,36,37,38,39,40,41,42,43,44,45,46,47,48,49,50,51,52,53,54,55,56,57,58,59,60,61,62,63,64,65,66,67,68,69,70,71,73,74,75,76,77,78,79,80,81,82,83,84,85,86,87,88,89,90,91,92,93,94,95,96,97,98,99,100,101,102,103,104,105,106,107,108,109,110,115,116,121,122,123,124,125,126,127,128,129,130,131,132,133,134,135,136,137,138,139,140,141,142,143,144,145,146,147,148,149,150,151,152,153,154,155,156,157,158,159,160,161,162,163,164,165,166,167,168,169,170,171,172,173,174,175,176,177,178,179,180,181,182,183,184,185,186,187,188,189,190,191,192,193,195,196,197,198,201,204,206,207,208,209,210,211,212,213,215,216,217,218,219,220,221,222,223,224,225,226,227,228,229,230,231,232,233,234,235,236,237,238,239,240,241,242,243,244,245,246,247,248,249,250,251,252,253,254,255,256,257,258,260,261,262,263,264,265,266,267,268,269,270,271,272,273,274,275,276,277,278,279,280,281,282,283,284,285,286,287,288,296,297,298,299,300,303,307,309,310,313,317,318,319,320,321,322,323,324,325,326,327,328,329,330,331,332,333,334,335,336,339,340,341,342,343,344,345,346,347,348,349,350,351,352,353,354,355,356,357,358,359,360,361,362,363,364,365,366,367,368,369,370,371,372,373,374,375,376,377,378,379,380,381,382,383,384,386,389,391,392,393,394,395,402,403,405,406,410,411,412,413,414,415,416,417,418,419,420,422,423,424,425,426,427,428,429,430,431,432,433,434,435,436,437,442,445,446,447,448,449,450,451,452,453,454,455,456,457,461,462,463,464,465,466,467,468,470,471,472,473,474,475,476,477,478,479,480,483,484,485,486,487,494,495,496,506,508]
theorem Xt {p:Nat→Bool} {l:List Nat} {n:Nat} (h:(l.take n).all p=true) (h2:(l.drop n).all p=true):l.all p=true:=by
 rw [←List.take_append_drop n l,List.all_append,h,h2];rfl
def goods0:List Nat:=goods
def goods1:List Nat:=goods0.drop 30
def goods2:List Nat:=goods1.drop 30
def goods3:List Nat:=goods2.drop 30
def goods4:List Nat:=goods3.drop 30
def goods5:List Nat:=goods4.drop 30
def goods6:List Nat:=goods5.drop 30
def goods7:List Nat:=goods6.drop 30
def goods8:List Nat:=goods7.drop 30
def goods9:List Nat:=goods8.drop 30
def goods10:List Nat:=goods9.drop 30
def goods11:List Nat:=goods10.drop 30
def goods12:List Nat:=goods11.drop 30
def goods13:List Nat:=goods12.drop 30
def goods14:List Nat:=goods13.drop 30
def goods15:List Nat:=goods14.drop 30
theorem Zpt:(goods0.take 30).all (WH Tryz.prog dyn)=true:=by decide +kernel
theorem Zq7:(goods1.take 30).all (WH Tryz.prog dyn)=true:=by decide +kernel
theorem Zro:(goods2.take 30).all (WH Tryz.prog dyn)=true:=by decide +kernel
theorem Zrl:(goods3.take 30).all (WH Tryz.prog dyn)=true:=by decide +kernel
theorem Zo6:(goods4.take 30).all (WH Tryz.prog dyn)=true:=by decide +kernel
theorem ZpO:(goods5.take 30).all (WH Tryz.prog dyn)=true:=by decide +kernel
theorem ZpZ:(goods6.take 30).all (WH Tryz.prog dyn)=true:=by decide +kernel
theorem Zp5:(goods7.take 30).all (WH Tryz.prog dyn)=true:=by decide +kernel
theorem Zrp:(goods8.take 30).all (WH Tryz.prog dyn)=true:=by decide +kernel
theorem Zpx:(goods9.take 30).all (WH Tryz.prog dyn)=true:=by decide +kernel
theorem ZnY:(goods10.take 30).all (WH Tryz.prog dyn)=true:=by decide +kernel
theorem Zoa:(goods11.take 30).all (WH Tryz.prog dyn)=true:=by decide +kernel
theorem ZnK:(goods12.take 30).all (WH Tryz.prog dyn)=true:=by decide +kernel
theorem Zob:(goods13.take 30).all (WH Tryz.prog dyn)=true:=by decide +kernel
theorem ZnJ:(goods14.take 30).all (WH Tryz.prog dyn)=true:=by decide +kernel
theorem ZpK:goods15.all (WH Tryz.prog dyn)=true:=by decide +kernel
theorem ZfR:goods.all (WH Tryz.prog dyn)=true:=(Xt (l:=goods0) (n:=30) Zpt (Xt (l:=goods1) (n:=30) Zq7 (Xt (l:=goods2) (n:=30) Zro (Xt (l:=goods3) (n:=30) Zrl (Xt (l:=goods4) (n:=30) Zo6 (Xt (l:=goods5) (n:=30) ZpO (Xt (l:=goods6) (n:=30) ZpZ (Xt (l:=goods7) (n:=30) Zp5 (Xt (l:=goods8) (n:=30) Zrp (Xt (l:=goods9) (n:=30) Zpx (Xt (l:=goods10) (n:=30) ZnY (Xt (l:=goods11) (n:=30) Zoa (Xt (l:=goods12) (n:=30) ZnK (Xt (l:=goods13) (n:=30) Zob (Xt (l:=goods14) (n:=30) ZnJ ZpK)))))))))))))))
/-- At X9: slices of pointed-at variables that become ones Z6 making. -/
def ownA (f:Nat):List (Nat×Nat×Nat) :=
 match f with
 | 115=>[(0,1,5)]
 | 406=>[(0,1,5)]
 | _=>[]
noncomputable def K0:Cfg:={ P:=Tryz.prog,prim:=prim,primH:=primH,ownA:=ownA,bT:=184,wrT:=wrT,nlT:=nlT,nlA:=nlA,live:=live,ret:=ret,good:=fun f=>goods.contains f,dyn:=dyn,out:=out,post:=post }
theorem K0_ok:CfgOk Lay K0 where
 prim:=ZmB
 primH:=Ziz
 good:=fun f h=>by
  have h1:f∈goods:=by simpa [K0] using h
  exact Zfv (C:=K0) (List.all_eq_true.1 ZfR f h1)
 mixed:=by show Tryz.prog.follows .mixedOrders=true;decide +kernel
end Go.Ab
