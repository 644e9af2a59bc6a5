/- What is proved: the configuration of the evaluator at this seat's program, with the library's functions by their contracts. What is proved: that the evaluator's configuration at this seat's program is right. Conditions: none. -/
import Derived.Test.YthdocgcbifoaaaaGreatDoorMX3
import Derived.Shelf.Strings.SlTrimAscii
import Derived.Test.YthdocgcbifoaaaaGreatDoorShelf
set_option linter.unusedSimpArgs false
set_option linter.unusedVariables false
namespace Go.Ab
open Go Go.Proofs
/-- What is asked of package-level variables. -/
def ErrCell (w:World) (g:Nat):Prop:=∃ ev,w.cell? ⟨g,0,none⟩=some ev∧(ev=.nilIface∨∃ te pe,ev=.iface te pe)
def Lay (w:World):Prop:=(∃ m,w.cell? ⟨0,0,none⟩=some (.int .i64 m))∧(ErrCell w 6∧ErrCell w 7)∧Lib.TabIs Tryz.prog w "internal/strconv.uint64pow10" .u64 Lib.pow10Tab∧Lib.TabIs Tryz.prog w "strings.asciiSpace" .u8 Lib.asciiSpaceTab
def fits (n:Int):Bool:=decide (-9223372036854775808≤n)&&decide (n≤9223372036854775807)
def pFormatBool:List AV→Option AV
 | [.bool b]=>some (.str (Lib.formatBool b))
 | _=>none
def pItoa:List AV→Option AV
 | [.int .i64 n]=>if fits n=true then some (.str (Lib.itoa n)) else none
 | _=>none
def pReplaceAll:List AV→Option AV
 | [.str s,.str o,.str n]=>if decide (s.length < 4294967281)&&(decide (1≤o.length)&&decide (s.length+Lib.countB ⟨s.toArray⟩ ⟨o.toArray⟩*n.length≤140737488355328)) then some (.str (Lib.replaceAll s o n)) else none
 | _=>none
def pHasPrefix:List AV→Option AV
 | [.str s,.str p]=>some (.bool (Lib.hasPrefix s p))
 | _=>none
def pCompare:List AV→Option AV
 | [.str s,.str p]=>some (.int .i64 (Lib.compareBytes s p))
 | _=>none
def pCut:List AV→Option AV
 | [.str s,.str p]=>if decide (s.length < 4294967281) then some (.tup [.str (Lib.cut s p).1,.str (Lib.cut s p).2.1,.bool (Lib.cut s p).2.2]) else none
 | _=>none
def pFields:List AV→Option AV
 | [.str s]=>if decide (s.length < 4294967281)&&s.all (fun b=>decide (b.toNat < 128)) then some (.rows ((Lib.fields s).map fun l=>[.str l])) else none
 | _=>none
def pMul64:List AV→Option AV
 | [.int .u64 x,.int .u64 y]=>if decide (0≤x∧x < 18446744073709551616∧0≤y∧y < 18446744073709551616) then some (.tup [.int .u64 (x*y / 18446744073709551616),.int .u64 (x*y % 18446744073709551616)]) else none
 | _=>none
def pAtoi:List AV→Option AV
 | [.str s]=>if decide (s.length≤281474976710656) then some (match Lib.atoiAll s with
  | .ok v=>.tup [.int .i64 v,.nili]
  | .range=>.tup [.int .i64 (Lib.atoiSat s),.iface 365 .any]
  | _=>.tup [.int .i64 0,.iface 365 .any]) else none
 | _=>none
def pRepeat:List AV→Option AV
 | [.str s,.int .i64 c]=>if decide (0≤c)&&(decide (c≤9223372036854775807)&&decide (s.length*c.toNat≤140737488355328)) then some (.str (Lib.repeatL s c.toNat)) else none
 | _=>none
def ascii (s:List UInt8):Bool:=s.all fun b=>decide (b.toNat < 128)
def strsOf:List (List AV)→Option (List (List UInt8))
 | []=>some []
 | [.str s]::r=>match strsOf r with
  | some l=>some (s::l)
  | none=>none
 | _=>none
def pJoin:List AV→Option AV
 | [.rows rs,.str sep]=>match strsOf rs with
  | some l=>if decide (l.length≤140737488355328)&&decide ((Lib.join l sep).length≤140737488355328) then some (.str (Lib.join l sep)) else none
  | none=>none
 | _=>none
def pTrim:List AV→Option AV
 | [.str s,.str cs]=>if decide (s.length≤9223372036854775807)&&(decide (cs.length < 4294967281)&&ascii cs) then some (.str (Lib.trimS s cs)) else none
 | _=>none
def pSplit:List AV→Option AV
 | [.str s,.str p]=>if decide (s.length < 4294967281)&&decide (1≤p.length) then some (.rows ((Lib.splitB ⟨p.toArray⟩ 0 (Lib.countB ⟨s.toArray⟩ ⟨p.toArray⟩) ⟨s.toArray⟩).map fun b=>[.str b.data.toList])) else none
 | _=>none
def pCutSuffix:List AV→Option AV
 | [.str s,.str p]=>if decide (s.length≤9223372036854775807) then some (.tup [.str (Lib.trimSuffix s p),.bool (Lib.hasSuffix s p)]) else none
 | _=>none
def pIndexByte:List AV→Option AV
 | [.str s,.int .u8 c]=>some (.int .i64 (Lib.indexByte s c.toNat.toUInt8))
 | _=>none
def primH (f:Nat) (args:List AV) (h:Heap):Option (AV×Heap) :=
 match f with
 | 197=>pCopyCheck 205 args h
 | 124=>pBString 205 5 args h
 | _=>none
def prim (f:Nat) (args:List AV):Option AV :=
 match f with
 | 151=>pSplit args
 | 150=>pCutSuffix args
 | 263=>pIndexByte args
 | 286=>pIndexByte args
 | 118=>pJoin args
 | 188=>pTrim args
 | 266=>pFormatBool args
 | 267=>pItoa args
 | 268=>pReplaceAll args
 | 120=>pHasPrefix args
 | 257=>pCompare args
 | 152=>pCut args
 | 264=>pFields args
 | 195=>pMul64 args
 | 312=>pAtoi args
 | 72=>pRepeat args
 | _=>none
theorem str2 {M:Nat→Nat→Prop} {w:World} {s p:List UInt8} (vs:List Value) (h:PRepL M w [.str s,.str p] vs):vs=[.string ⟨s.toArray⟩,.string ⟨p.toArray⟩]:=by
 obtain ⟨v,vr,rfl,h1,v2,vr2,rfl,h2,h3⟩:=h
 have e1:v=.string ⟨s.toArray⟩:=h1
 have e2:v2=.string ⟨p.toArray⟩:=h2
 have e3:vr2=[]:=h3
 rw [e1,e2,e3]
theorem below_grow (w:World) (k:Nat) (os:Array Obj):RowKit.Below w.heap.size w (Sort.grow (w.drewN k) os) :=
 ⟨rfl,rfl,rfl,by simp [Sort.grow,World.drewN],fun b hb=>by simp only [Sort.grow,World.drewN];exact Array.getElem?_append_left hb⟩
def PrimOk (f:Nat) (p:List AV→Option AV):Prop:=∀ args v,p args=some v→Enters Tryz.prog f∧Called Lay Tryz.prog f args [] v []
theorem pFormatBool_ok:PrimOk 266 pFormatBool:=by
 intro args v e
 unfold pFormatBool at e
 split at e
 ·rename_i b
  simp only [Option.some.injEq] at e
  subst e
  refine ⟨enters_of Tryz.func266 (by decide) rfl,prim_of (vs0:=[.bool b]) (v:=.string ⟨(Lib.formatBool b).toArray⟩) (fun M w vs h=>?_) (fun _ _=>rfl) fun w _=>(Tryz.strconv_FormatBool b w).mono ?_⟩
  ·obtain ⟨v,vr,rfl,h1,h2⟩:=h
   have e1:v=.bool b:=h1
   have e2:vr=[]:=h2
   rw [e1,e2]
  ·rintro e w' ⟨rfl,rfl⟩
   exact ⟨rfl,below_refl _⟩
 ·simp at e
theorem pItoa_ok:PrimOk 267 pItoa:=by
 intro args v e
 unfold pItoa at e
 split at e
 ·rename_i n
  split at e
  ·rename_i hf
   simp only [fits,Bool.and_eq_true,decide_eq_true_eq] at hf
   simp only [Option.some.injEq] at e
   subst e
   refine ⟨enters_of Tryz.func267 (by decide) rfl,prim_of (vs0:=[.int .i64 n]) (v:=.string ⟨(Lib.itoa n).toArray⟩) (fun M w vs h=>?_) (fun _ _=>rfl) fun w hw=>(Tryz.strconv_Itoa n hf.1 hf.2 w hw.2.2.1).mono ?_⟩
   ·obtain ⟨v,vr,rfl,h1,h2⟩:=h
    have e1:v=.int .i64 n:=h1
    have e2:vr=[]:=h2
    rw [e1,e2]
   ·rintro e w' ⟨rfl,k,os,rfl⟩
    exact ⟨rfl,below_grow _ _ _⟩
  ·simp at e
 ·simp at e
theorem pReplaceAll_ok:PrimOk 268 pReplaceAll:=by
 intro args v e
 unfold pReplaceAll at e
 split at e
 ·rename_i s o n
  split at e
  ·rename_i hf
   simp only [Bool.and_eq_true,decide_eq_true_eq] at hf
   simp only [Option.some.injEq] at e
   subst e
   refine ⟨enters_of Tryz.func268 (by decide) rfl,prim_of (vs0:=[.string ⟨s.toArray⟩,.string ⟨o.toArray⟩,.string ⟨n.toArray⟩]) (v:=.string ⟨(Lib.replaceAll s o n).toArray⟩) (fun M w vs h=>?_) (fun _ _=>rfl) fun w hw=>?_⟩
   ·obtain ⟨v,vr,rfl,h1,h2⟩:=h
    have e1:v=.string ⟨s.toArray⟩:=h1
    rw [e1,str2 vr h2]
   ·obtain ⟨m,hm⟩:=hw.1
    refine (Tryz.strings_ReplaceAll ⟨s.toArray⟩ ⟨o.toArray⟩ ⟨n.toArray⟩ m w (by simpa [ByteArray.size] using hf.1) hm (by simpa [ByteArray.size] using hf.2.1) (by simpa [ByteArray.size] using hf.2.2)).mono ?_
    rintro e w' ⟨rfl,hb⟩
    exact ⟨rfl,hb⟩
  ·simp at e
 ·simp at e
theorem pHasPrefix_ok:PrimOk 120 pHasPrefix:=by
 intro args v e
 unfold pHasPrefix at e
 split at e
 ·rename_i s p
  simp only [Option.some.injEq] at e
  subst e
  refine ⟨enters_of Tryz.func120 (by decide) rfl,prim_of (vs0:=[.string ⟨s.toArray⟩,.string ⟨p.toArray⟩]) (v:=.bool (Lib.hasPrefix s p)) (fun M w vs h=>str2 vs h) (fun _ _=>rfl) fun w _=>(Tryz.strings_HasPrefix _ _ w).mono ?_⟩
  rintro e w' ⟨rfl,rfl⟩
  exact ⟨rfl,below_refl _⟩
 ·simp at e
theorem pCompare_ok:PrimOk 257 pCompare:=by
 intro args v e
 unfold pCompare at e
 split at e
 ·rename_i s p
  simp only [Option.some.injEq] at e
  subst e
  refine ⟨enters_of Tryz.func257 (by decide) rfl,prim_of (vs0:=[.string ⟨s.toArray⟩,.string ⟨p.toArray⟩]) (v:=.int .i64 (Lib.compareBytes s p)) (fun M w vs h=>str2 vs h) (fun _ _=>rfl) fun w _=>(Tryz.strings_Compare _ _ w).mono ?_⟩
  rintro e w' ⟨rfl,rfl⟩
  exact ⟨rfl,below_refl _⟩
 ·simp at e
theorem pCut_ok:PrimOk 152 pCut:=by
 intro args v e
 unfold pCut at e
 split at e
 ·rename_i s p
  split at e
  ·rename_i hf
   simp only [decide_eq_true_eq] at hf
   simp only [Option.some.injEq] at e
   subst e
   refine ⟨enters_of Tryz.func152 (by decide) rfl,prim_of (vs0:=[.string ⟨s.toArray⟩,.string ⟨p.toArray⟩]) (v:=.tuple #[.string ⟨(Lib.cut s p).1.toArray⟩,.string ⟨(Lib.cut s p).2.1.toArray⟩,.bool (Lib.cut s p).2.2]) (fun M w vs h=>str2 vs h) (fun _ _=>⟨_,rfl,_,_,rfl,rfl,_,_,rfl,rfl,_,_,rfl,rfl,rfl⟩) fun w hw=>?_⟩
   obtain ⟨m,hm⟩:=hw.1
   refine (Tryz.strings_Cut ⟨s.toArray⟩ ⟨p.toArray⟩ m w (by simpa [ByteArray.size] using hf) hm).mono ?_
   rintro e w' ⟨rfl,n,rfl⟩
   exact ⟨rfl,below_drewN _ _⟩
  ·simp at e
 ·simp at e
theorem pFields_ok:PrimOk 264 pFields:=by
 intro args v e
 unfold pFields at e
 split at e
 ·rename_i s
  split at e
  ·rename_i hf
   simp only [Bool.and_eq_true,decide_eq_true_eq,List.all_eq_true] at hf
   simp only [Option.some.injEq] at e
   subst e
   refine ⟨enters_of Tryz.func264 (by decide) rfl,prim_at (vs0:=[.string ⟨s.toArray⟩]) (fun M w vs h=>?_) fun w hw=>?_⟩
   ·obtain ⟨v,vr,rfl,h1,h2⟩:=h
    have e1:v=.string ⟨s.toArray⟩:=h1
    have e2:vr=[]:=h2
    rw [e1,e2]
   ·refine (Tryz.strings_Fields ⟨s.toArray⟩ w (by simpa [ByteArray.size] using hf.1) (fun j b hb=>hf.2 b (List.mem_of_getElem? (by simpa using hb))) hw.2.2.2).mono ?_
    rintro e w' ⟨rfl,rfl⟩
    refine ⟨_,rfl,⟨rfl,rfl,rfl,by simp,fun b hb=>alloc_old _ hb⟩,fun M hM=>⟨some ⟨w.heap.size,0,none⟩,(Lib.fields s).length,by simp,by simp,.inr ⟨w.heap.size,0,1,rfl,PRows.of_at _ _ fun i row hrow=>?_⟩⟩⟩
    rw [List.getElem?_map] at hrow
    cases hl:(Lib.fields s)[i]? with
    | none=>simp [hl] at hrow
    | some l =>
     simp only [hl,Option.map_some,Option.some.injEq] at hrow
     subst hrow
     refine ⟨rfl,rfl,⟨.string ⟨l.toArray⟩,?_,fun hx=>?_,rfl⟩,trivial⟩
     ·simp only [World.cell?,alloc_new]
      simp [hl]
     ·have:=hM _ _ hx
      omega
  ·simp at e
 ·simp at e
theorem pMul64_ok:PrimOk 195 pMul64:=by
 intro args v e
 unfold pMul64 at e
 split at e
 ·rename_i x y
  split at e
  ·rename_i hf
   simp only [decide_eq_true_eq] at hf
   simp only [Option.some.injEq] at e
   subst e
   obtain ⟨x,rfl⟩:=Int.eq_ofNat_of_zero_le hf.1
   obtain ⟨y,rfl⟩:=Int.eq_ofNat_of_zero_le hf.2.2.1
   refine ⟨enters_of Tryz.func195 (by decide) rfl,prim_of (vs0:=[.int .u64 x,.int .u64 y]) (v:=.tuple #[.int .u64 ((x*y / 18446744073709551616:Nat):Int),.int .u64 ((x*y % 18446744073709551616:Nat):Int)]) (fun M w vs h=>?_) (fun _ _=>⟨_,rfl,_,_,rfl,by simp [PRep],_,_,rfl,by simp [PRep],rfl⟩) fun w _=>(Tryz.bits_Mul64 x y (by omega) (by omega) w).mono ?_⟩
   ·obtain ⟨v,vr,rfl,h1,v2,vr2,rfl,h2,h3⟩:=h
    have e1:v=.int .u64 x:=h1
    have e2:v2=.int .u64 y:=h2
    have e3:vr2=[]:=h3
    rw [e1,e2,e3]
   ·rintro e w' ⟨rfl,rfl⟩
    exact ⟨rfl,below_refl _⟩
  ·simp at e
 ·simp at e
theorem str1 {M:Nat→Nat→Prop} {w:World} {s:List UInt8} (vs:List Value) (h:PRepL M w [.str s] vs):vs=[.string ⟨s.toArray⟩]:=by
 obtain ⟨v,vr,rfl,h1,h2⟩:=h
 have e1:v=.string ⟨s.toArray⟩:=h1
 have e2:vr=[]:=h2
 rw [e1,e2]
theorem pAtoi_ok:PrimOk 312 pAtoi:=by
 intro args v e
 unfold pAtoi at e
 split at e
 ·rename_i s
  split at e
  ·rename_i hl
   simp only [decide_eq_true_eq] at hl
   simp only [Option.some.injEq] at e
   subst e
   refine ⟨enters_of Tryz.func312 (by decide) rfl,prim_at (vs0:=[.string ⟨s.toArray⟩]) (fun M w vs h=>str1 vs h) fun w hw=>?_⟩
   have hsz:(⟨s.toArray⟩:ByteArray).size=s.length:=rfl
   cases ha:Lib.atoiAll s with
   | ok v =>
    refine (Tryz.strconv_Atoi_ok ⟨s.toArray⟩ (by rw [hsz];omega) v ha w).mono ?_
    rintro e w' ⟨rfl,hb⟩
    refine ⟨_,rfl,?_,fun M _=>⟨_,rfl,_,_,rfl,rfl,_,_,rfl,rfl,rfl⟩⟩
    rcases hb with rfl | ⟨t,rfl⟩
    ·exact below_refl _
    ·exact Lib.bytesWorld_below _ _ _
   | range =>
    obtain ⟨ev,h1,h2⟩:=hw.2.1.2
    refine (Tryz.strconv_Atoi_range ⟨s.toArray⟩ (by rw [hsz];exact hl) ha ev w h1 h2).mono ?_
    rintro e w' ⟨N,rfl,_,_,hb⟩
    exact ⟨_,rfl,hb,fun M _=>⟨_,rfl,_,_,rfl,rfl,_,_,rfl,⟨_,rfl,trivial⟩,rfl⟩⟩
   | _ =>
    obtain ⟨ev,h1,h2⟩:=hw.2.1.1
    refine (Tryz.strconv_Atoi_syntax ⟨s.toArray⟩ (by rw [hsz];exact hl) ha ev w h1 h2).mono ?_
    rintro e w' ⟨N,rfl,_,_,hb⟩
    exact ⟨_,rfl,hb,fun M _=>⟨_,rfl,_,_,rfl,rfl,_,_,rfl,⟨_,rfl,trivial⟩,rfl⟩⟩
  ·simp at e
 ·simp at e
theorem pRepeat_ok:PrimOk 72 pRepeat:=by
 intro args v e
 unfold pRepeat at e
 split at e
 ·rename_i s c
  split at e
  ·rename_i hf
   simp only [Bool.and_eq_true,decide_eq_true_eq] at hf
   simp only [Option.some.injEq] at e
   subst e
   obtain ⟨c,rfl⟩:=Int.eq_ofNat_of_zero_le hf.1
   refine ⟨enters_of Tryz.func72 (by decide) rfl,prim_of (vs0:=[.string ⟨s.toArray⟩,.int .i64 c]) (v:=.string ⟨(Lib.repeatL s c).toArray⟩) (fun M w vs h=>?_) (fun _ _=>rfl) fun w _=>(Tryz.strings_Repeat ⟨s.toArray⟩ c w (by omega) (by simpa [ByteArray.size] using hf.2.2)).mono ?_⟩
   ·obtain ⟨v,vr,rfl,h1,v2,vr2,rfl,h2,h3⟩:=h
    have e1:v=.string ⟨s.toArray⟩:=h1
    have e2:v2=.int .i64 c:=h2
    have e3:vr2=[]:=h3
    rw [e1,e2,e3]
   ·rintro e w' ⟨rfl,hb⟩
    exact ⟨rfl,hb⟩
  ·simp at e
 ·simp at e
theorem strsOf_spec:∀ (rs:List (List AV)) (l:List (List UInt8)),strsOf rs=some l→rs=l.map fun s=>[.str s]
 | [],l,e=>by simp only [strsOf,Option.some.injEq] at e;subst e;rfl
 | row::r,l,e=>by
  unfold strsOf at e
  split at e
  ·simp at *
  ·rename_i s r' heq
   obtain ⟨rfl,rfl⟩:=List.cons.inj heq
   split at e
   ·rename_i l' hl
    simp only [Option.some.injEq] at e
    subst e
    rw [strsOf_spec r l' hl];rfl
   ·simp at e
  ·simp at e
theorem bytes_back:∀ l:List (List UInt8),(l.map fun s:List UInt8=>(⟨s.toArray⟩:ByteArray)).map (·.data.toList)=l
 | []=>rfl
 | s::l=>by
  simp only [List.map_cons]
  rw [bytes_back l]
theorem pJoin_ok:PrimOk 118 pJoin:=by
 intro args v e
 unfold pJoin at e
 split at e
 ·rename_i rs sep
  split at e
  ·rename_i l hl
   split at e
   ·rename_i hf
    simp only [Bool.and_eq_true,decide_eq_true_eq] at hf
    simp only [Option.some.injEq] at e
    subst e
    have hrs:=strsOf_spec rs l hl
    subst hrs
    refine ⟨enters_of Tryz.func118 (by decide) rfl,prim_any (v:=.string ⟨(Lib.join l sep).toArray⟩) (fun _ _=>rfl) fun M w vs _ ha=>?_⟩
    obtain ⟨v1,vr,rfl,h1,v2,vr2,rfl,h2,h3⟩:=ha
    have h2:v2=.string ⟨sep.toArray⟩:=h2
    have h3:vr2=[]:=h3
    subst h2;subst h3
    obtain ⟨base,cap,rfl,hc,hb⟩:=h1
    have hlen:(l.map fun s:List UInt8=>[AV.str s]).length=(l.map fun s:List UInt8=>(⟨s.toArray⟩:ByteArray)).length:=by simp
    have hmap:=bytes_back l
    rw [hlen] at hc ⊢
    cases l with
    | nil =>
     refine (Tryz.strings_Join_none base cap ⟨sep.toArray⟩ w).mono ?_
     rintro e w' ⟨rfl,rfl⟩
     exact ⟨rfl,below_refl _⟩
    | cons s0 l0 =>
     rcases hb with hb | ⟨b,o,z,rfl,hp⟩
     ·simp at hb
     have hz:z=1:=(PRows.at _ o hp 0 [.str s0] rfl).1.symm
     subst hz
     have hcell:∀ (j:Nat) (x:ByteArray),((s0::l0).map fun s:List UInt8=>(⟨s.toArray⟩:ByteArray))[j]? = some x→w.cell? ⟨b,o+j,none⟩=some (.string x):=fun j x hx=>by
      rw [List.getElem?_map] at hx
      cases hs:(s0::l0)[j]? with
      | none=>rw [hs] at hx;simp at hx
      | some s =>
       rw [hs] at hx
       simp only [Option.map_some,Option.some.injEq] at hx
       subst hx
       obtain ⟨_,_,hm⟩:=PRows.at _ o hp j [.str s] (by rw [List.getElem?_map,hs];rfl)
       obtain ⟨⟨u,hu,_,hr⟩,_⟩:=hm
       have hr:u=.string ⟨s.toArray⟩:=hr
       subst hr
       simpa using hu
     have hbk:b < w.heap.size:=by
      have:=hcell 0 _ rfl
      rcases Nat.lt_or_ge b w.heap.size with h' | h'
      ·exact h'
      ·simp [World.cell?,Array.getElem?_eq_none h'] at this
     refine (Tryz.strings_Join b o cap _ ⟨sep.toArray⟩ w hcell hbk (by simpa using hf.1) hc (by rw [hmap];exact hf.2)).mono ?_
     rintro e w' ⟨rfl,hb⟩
     exact ⟨by rw [hmap],hb⟩
   ·simp at e
  ·simp at e
 ·simp at e
theorem pTrim_ok:PrimOk 188 pTrim:=by
 intro args v e
 unfold pTrim at e
 split at e
 ·rename_i s cs
  split at e
  ·rename_i hf
   simp only [Bool.and_eq_true,decide_eq_true_eq,ascii,List.all_eq_true] at hf
   simp only [Option.some.injEq] at e
   subst e
   refine ⟨enters_of Tryz.func188 (by decide) rfl,prim_of (vs0:=[.string ⟨s.toArray⟩,.string ⟨cs.toArray⟩]) (v:=.string ⟨(Lib.trimS s cs).toArray⟩) (fun M w vs h=>str2 vs h) (fun _ _=>rfl) fun w _=>(Any.strings_Trim_laid Tryz.lays160 (by kernel_rfl) ⟨s.toArray⟩ ⟨cs.toArray⟩ w (by simpa [ByteArray.size] using hf.1) (by simpa [ByteArray.size] using hf.2.1) (fun j b hb=>hf.2.2 b (List.mem_of_getElem? (by simpa using hb)))).mono ?_⟩
   rintro e w' ⟨rfl,hb⟩
   exact ⟨rfl,hb⟩
  ·simp at e
 ·simp at e
theorem pSplit_ok:PrimOk 151 pSplit:=by
 intro args v e
 unfold pSplit at e
 split at e
 ·rename_i s p
  split at e
  ·rename_i hf
   simp only [Bool.and_eq_true,decide_eq_true_eq] at hf
   simp only [Option.some.injEq] at e
   subst e
   have hlen:(Lib.splitB ⟨p.toArray⟩ 0 (Lib.countB ⟨s.toArray⟩ ⟨p.toArray⟩) ⟨s.toArray⟩).length=Lib.countB ⟨s.toArray⟩ ⟨p.toArray⟩+1:=Lib.splitB_all _ (by simpa [ByteArray.size] using hf.2) 0 _ _ rfl
   refine ⟨enters_of Tryz.func151 (by decide) rfl,prim_at (vs0:=[.string ⟨s.toArray⟩,.string ⟨p.toArray⟩]) (fun M w vs h=>str2 vs h) fun w hw=>?_⟩
   obtain ⟨m,hm⟩:=hw.1
   refine (Tryz.strings_Split ⟨s.toArray⟩ ⟨p.toArray⟩ m w (by simpa [ByteArray.size] using hf.1) hm (by simpa [ByteArray.size] using hf.2)).mono ?_
   rintro e w' ⟨rfl,rfl⟩
   refine ⟨_,rfl,⟨rfl,rfl,rfl,by simp,fun b hb=>alloc_old _ hb⟩,fun M hM=>⟨some ⟨w.heap.size,0,none⟩,Lib.countB ⟨s.toArray⟩ ⟨p.toArray⟩+1,by simp [hlen],by simp [hlen],.inr ⟨w.heap.size,0,1,rfl,PRows.of_at _ _ fun i row hrow=>?_⟩⟩⟩
   rw [List.getElem?_map] at hrow
   cases hl:(Lib.splitB ⟨p.toArray⟩ 0 (Lib.countB ⟨s.toArray⟩ ⟨p.toArray⟩) ⟨s.toArray⟩)[i]? with
   | none=>simp [hl] at hrow
   | some l =>
    simp only [hl,Option.map_some,Option.some.injEq] at hrow
    subst hrow
    refine ⟨rfl,rfl,⟨.string l,?_,fun hx=>?_,rfl⟩,trivial⟩
    ·simp only [World.cell?,alloc_new]
     simp [hl]
    ·have:=hM _ _ hx
     omega
  ·simp at e
 ·simp at e
theorem pCutSuffix_ok:PrimOk 150 pCutSuffix:=by
 intro args v e
 unfold pCutSuffix at e
 split at e
 ·rename_i s p
  split at e
  ·rename_i hf
   simp only [decide_eq_true_eq] at hf
   simp only [Option.some.injEq] at e
   subst e
   refine ⟨enters_of Tryz.func150 (by decide) rfl,prim_of (vs0:=[.string ⟨s.toArray⟩,.string ⟨p.toArray⟩]) (v:=.tuple #[.string ⟨(Lib.trimSuffix s p).toArray⟩,.bool (Lib.hasSuffix s p)]) (fun M w vs h=>str2 vs h) (fun _ _=>⟨_,rfl,_,_,rfl,rfl,_,_,rfl,rfl,rfl⟩) fun w _=>(Tryz.strings_CutSuffix ⟨s.toArray⟩ ⟨p.toArray⟩ w (by simpa [ByteArray.size] using hf)).mono ?_⟩
   rintro e w' ⟨rfl,rfl⟩
   exact ⟨rfl,below_refl _⟩
  ·simp at e
 ·simp at e
theorem strInt {M:Nat→Nat→Prop} {w:World} {s:List UInt8} {k:IntKind} {c:Int} (vs:List Value) (h:PRepL M w [.str s,.int k c] vs):vs=[.string ⟨s.toArray⟩,.int k c]:=by
 obtain ⟨v,vr,rfl,h1,v2,vr2,rfl,h2,h3⟩:=h
 have e1:v=.string ⟨s.toArray⟩:=h1
 have e2:v2=.int k c:=h2
 have e3:vr2=[]:=h3
 rw [e1,e2,e3]
theorem pIndexByte_ok:PrimOk 263 pIndexByte:=by
 intro args v e
 unfold pIndexByte at e
 split at e
 ·rename_i s c
  simp only [Option.some.injEq] at e
  subst e
  refine ⟨enters_of Tryz.func263 (by decide) rfl,prim_of (vs0:=[.string ⟨s.toArray⟩,.int .u8 c]) (v:=.int .i64 (Lib.indexByte s c.toNat.toUInt8)) (fun M w vs h=>strInt vs h) (fun _ _=>rfl) fun w _=>(Tryz.strings_IndexByte ⟨s.toArray⟩ c w).mono ?_⟩
  rintro e w' ⟨rfl,rfl⟩
  exact ⟨rfl,below_refl _⟩
 ·simp at e
theorem pIndexByteL_ok:PrimOk 286 pIndexByte:=by
 intro args v e
 unfold pIndexByte at e
 split at e
 ·rename_i s c
  simp only [Option.some.injEq] at e
  subst e
  refine ⟨enters_of Tryz.func286 (by decide) rfl,prim_of (vs0:=[.string ⟨s.toArray⟩,.int .u8 c]) (v:=.int .i64 (Lib.indexByte s c.toNat.toUInt8)) (fun M w vs h=>strInt vs h) (fun _ _=>rfl) fun w _=>(Tryz.stringslite_IndexByte ⟨s.toArray⟩ c w).mono ?_⟩
  rintro e w' ⟨rfl,rfl⟩
  exact ⟨rfl,below_refl _⟩
 ·simp at e
theorem primH_ok:∀ f args h r h',primH f args h=some (r,h')→Enters Tryz.prog f∧Called Lay Tryz.prog f args h r h':=by
 intro f args h r h' e
 unfold primH at e
 split at e
 ·exact ⟨enters_of Tryz.func197 (by decide) rfl,copyCheck_called (ρ:=Tryz.lays155_ren) { Tryz.lays155 with } Tryz.Builder_Extra_155.toX72 e⟩
 ·exact ⟨enters_of Tryz.func124 (by decide) rfl,bString_called (ρ:=Tryz.lays155_ren) { Tryz.lays155 with } Tryz.Builder_Extra_155 e⟩
 ·simp at e
theorem prim_ok:∀ f args v,prim f args=some v→Enters Tryz.prog f∧Called Lay Tryz.prog f args [] v []:=by
 intro f args v e
 unfold prim at e
 split at e
 ·exact pSplit_ok args v e
 ·exact pCutSuffix_ok args v e
 ·exact pIndexByte_ok args v e
 ·exact pIndexByteL_ok args v e
 ·exact pJoin_ok args v e
 ·exact pTrim_ok args v e
 ·exact pFormatBool_ok args v e
 ·exact pItoa_ok args v e
 ·exact pReplaceAll_ok args v e
 ·exact pHasPrefix_ok args v e
 ·exact pCompare_ok args v e
 ·exact pCut_ok args v e
 ·exact pFields_ok args v e
 ·exact pMul64_ok args v e
 ·exact pAtoi_ok args v e
 ·exact pRepeat_ok args v e
 ·simp at e
end Go.Ab
namespace Go.Ab
open Go Go.Proofs
/-- Open regions: what an operation may not touch. -/
def dyn (f r:Nat):List (Nat×Nat) :=
 match f with
 | 4=>if r=5 then [(8,20)] else (if r=9 then [(6,37),(6,45),(6,48),(14,37),(14,38),(14,45)] else (if r=14 then [(5,73)] else (if r=25 then [(7,132),(7,7),(7,140),(10,132)] else ([]))))
 | 5=>if r=10 then [(10,46),(11,47)] else ([])
 | 7=>if r=4 then [(6,16)] else (if r=7 then [(12,41)] else (if r=10 then [(16,66),(16,67),(16,69),(18,66),(18,67),(18,69)] else (if r=16 then [(14,113)] else ([]))))
 | 9=>if r=20 then [(8,87)] else ([])
 | 12=>if r=3 then [(4,18)] else (if r=8 then [(8,37)] else (if r=14 then [(4,69),(10,73)] else ([])))
 | 49=>if r=5 then [(11,30)] else (if r=11 then [(8,57)] else (if r=18 then [(6,82)] else ([])))
 | 62=>if r=5 then [(6,13),(6,15),(8,13)] else ([])
 | 71=>if r=2 then [(2,9),(7,7),(7,10)] else ([])
 | 93=>if r=6 then [(7,52),(8,52)] else (if r=15 then [(7,97)] else ([]))
 | 96=>if r=1 then [(4,1)] else ([])
 | 97=>if r=5 then [(2,18)] else (if r=6 then [(2,26),(5,28)] else ([]))
 | 103=>if r=5 then [(14,52)] else ([])
 | 105=>if r=1 then [(8,20)] else ([])
 | 115=>if r=6 then [(15,33),(15,34)] else ([])
 | 116=>if r=19 then [(7,66)] else ([])
 | 121=>if r=3 then [(4,16)] else ([])
 | 124=>if r=1 then [(4,10)] else ([])
 | 167=>if r=5 then [(11,38)] else ([])
 | 168=>if r=18 then [(16,98)] else ([])
 | 169=>if r=1 then [(15,13),(15,16)] else ([])
 | 170=>if r=5 then [(13,40),(18,45)] else ([])
 | 174=>if r=0 then [(7,7)] else ([])
 | 192=>if r=16 then [(13,68),(13,69)] else (if r=18 then [(7,82)] else (if r=28 then [(13,114)] else (if r=29 then [(14,144)] else ([]))))
 | 198=>if r=0 then [(4,16)] else ([])
 | 202=>if r=6 then [(6,31)] else ([])
 | 227=>if r=1 then [(16,22)] else ([])
 | 229=>if r=4 then [(15,38)] else ([])
 | 301=>if r=4 then [(14,32)] else ([])
 | 302=>if r=5 then [(9,49)] else (if r=17 then [(9,101)] else (if r=35 then [(11,169)] else ([])))
 | _=>[]
/-- Slices under making that are written, too, by type. -/
def wrT (t:Nat):Bool :=
 match t with
 | 22=>true
 | 26=>true
 | 30=>true
 | 45=>true
 | 75=>true
 | 80=>true
 | 188=>true
 | _=>false
/-- Slice literals whose elements keep their nil slices, by type. -/
def nlT (t:Nat):Bool :=
 match t with
 | 26=>true
 | 30=>true
 | 45=>true
 | 47=>true
 | 48=>true
 | _=>false
/-- Functions that are handed nil slices as such. -/
def nlA (f:Nat):Bool :=
 match f with
 | 159=>true
 | _=>false
/-- How results are handed back. -/
def ret (f:Nat):Nat :=
 match f with
 | 18=>1
 | 20=>1
 | 22=>3
 | 23=>3
 | 28=>1
 | 29=>1
 | 30=>1
 | 46=>3
 | 47=>3
 | 48=>3
 | 49=>3
 | 62=>3
 | 96=>3
 | 98=>1
 | 99=>3
 | 104=>3
 | 105=>3
 | 161=>1
 | 163=>1
 | 164=>1
 | 168=>3
 | 169=>3
 | 173=>3
 | 174=>3
 | 175=>3
 | 176=>3
 | 182=>3
 | 186=>3
 | 230=>3
 | 231=>3
 | _=>0
/-- Loops: the slots that live from round to round; slices that the loop makes; slices that nothing writes any more. -/
def live (f b:Nat):Option (List Nat×List (Nat×Option Nat×Nat×Bool)×List Nat) :=
 match f with
 | 3=>match b with
  | 0=>some ([3,4,5,19,20],[],[])
  | _=>none
 | 4=>match b with
  | 0=>some ([0,2,3,16,17],[(3,some 0,5,false)],[])
  | 2=>some ([0,2,3,34,35],[],[])
  | 4=>some ([0,2,3,5,6,7,34,35,67,68,69],[(7,some 1,1,false)],[])
  | 6=>some ([0,2,3,5,6,7,10,34,35,67,68,69,85,86,87],[],[])
  | _=>none
 | 5=>match b with
  | 0=>some ([0,2,4,6,7,8,22],[],[])
  | 2=>some ([0,2,4,6,7,8,22,24,25,26],[],[])
  | 4=>some ([0,2,4,6,7,8,11,22,24,25,26,33,34],[],[])
  | _=>none
 | 8=>match b with
  | 0=>some ([8,27,28],[(8,some 2,4,false)],[])
  | _=>none
 | 9=>match b with
  | 0=>some ([2,3,8,39,40,41],[(8,some 0,4,false)],[])
  | 2=>some ([2,3,8,10,11,12,39,40,41,53,54,55],[],[])
  | 4=>some ([2,3,8,10,11,12,13,39,40,41,53,54,55,60,61,62],[],[])
  | 6=>some ([2,3,8,10,11,12,39,40,41,97,98,99],[],[])
  | 8=>some ([2,3,8,10,11,12,39,40,41,113,114,115],[],[])
  | 10=>some ([2,3,8,10,11,12,20,21,39,40,41,113,114,115,123,124,125],[],[])
  | _=>none
 | 11=>match b with
  | 0=>some ([0,1,12,13],[],[])
  | _=>none
 | 12=>match b with
  | 0=>some ([0,4,5,33,34],[],[])
  | 2=>some ([0,4,5,51,52],[(5,some 4,3,false)],[])
  | 4=>some ([0,4,5,8,51,52,74,75,76],[(8,some 1,1,false)],[])
  | _=>none
 | 14=>match b with
  | 0=>some ([0,1,7,8],[],[])
  | _=>none
 | 21=>match b with
  | 0=>some ([1,19,20,21],[],[])
  | 2=>some ([1,49,50,51],[],[])
  | 4=>some ([1,8,49,50,51,56,57,58],[],[])
  | 6=>some ([1,8,10,11,49,50,51,56,57,58,84,85,86],[],[])
  | _=>none
 | 22=>match b with
  | 0=>some ([3,10,11,12],[(3,some 1,2,true)],[])
  | _=>none
 | 24=>match b with
  | 0=>some ([1,2,3,4,14,15,16],[(3,none,1,false)],[])
  | 2=>some ([1,2,3,4,5,6,14,15,16,23,24],[(3,none,1,false)],[])
  | 4=>some ([1,2,3,4],[],[])
  | 6=>some ([1,2,3,4,69,70,71],[],[])
  | _=>none
 | 26=>match b with
  | 0=>some ([0,5,10,11,12],[(5,none,3,true)],[])
  | _=>none
 | 27=>match b with
  | 0=>some ([0,2,15,16,17],[],[])
  | _=>none
 | 31=>match b with
  | 0=>some ([0,2,3],[],[])
  | _=>none
 | 34=>match b with
  | 0=>some ([3,19,20,21],[],[])
  | 2=>some ([3,6,19,20,21,39,40,41],[],[])
  | 4=>some ([3,6,8,19,20,21,39,40,41,52,53,54],[],[])
  | _=>none
 | 35=>match b with
  | 0=>some ([0,1,4,29,30,31],[],[])
  | 2=>some ([0,1,4,5,6,29,30,31,37,38,39],[],[])
  | 4=>some ([0,1,4,70,71,72],[],[])
  | 6=>some ([0,1,87,88,89],[],[])
  | _=>none
 | 36=>match b with
  | 0=>some ([2,3,4,23,24,25],[],[])
  | 2=>some ([2,4,41,42,43],[],[])
  | 4=>some ([2,4,9,10,41,42,43,61,62,63],[],[])
  | _=>none
 | 38=>match b with
  | 0=>some ([2,3,4,5,10,16,17,18],[],[])
  | _=>none
 | 41=>match b with
  | 0=>some ([1,3,8,9,13,14,15],[(8,none,3,true)],[])
  | _=>none
 | 45=>match b with
  | 0=>some ([0,2,6,7,8,25,26,27],[(7,some 0,5,true)],[])
  | _=>none
 | 54=>match b with
  | 0=>some ([0,1,5,9,10],[(5,none,1,true)],[])
  | 2=>some ([0,5,7],[],[])
  | _=>none
 | 56=>match b with
  | 0=>some ([0,1,7,8],[],[])
  | _=>none
 | 57=>match b with
  | 0=>some ([0,1,7,8],[],[])
  | _=>none
 | 60=>match b with
  | 0=>some ([1,41,42,43],[],[])
  | 3=>some ([1,77,78,79],[],[])
  | 6=>some ([1,106,107,108],[],[])
  | 8=>some ([1,138,139,140],[],[])
  | _=>none
 | 62=>match b with
  | 0=>some ([2,3,7,8,9],[(3,some 0,2,true)],[])
  | _=>none
 | 63=>match b with
  | 0=>some ([1,3,4,18,19,20],[],[])
  | 2=>some ([1,3,4,5,18,19,20,31,32,33],[],[])
  | 4=>some ([3,4,48,49],[],[])
  | 6=>some ([3,4,9,48,49,52,53],[],[])
  | 8=>some ([3,4,9,10,48,49,52,53,56,57],[],[])
  | _=>none
 | 71=>match b with
  | 0=>some ([0,3,4,18,19],[],[])
  | _=>none
 | 73=>match b with
  | 0=>some ([6,7,8],[],[])
  | _=>none
 | 75=>match b with
  | 0=>some ([1,7,8],[],[])
  | _=>none
 | 82=>match b with
  | 0=>some ([1,2,15,16,17],[],[])
  | _=>none
 | 86=>match b with
  | 0=>some ([0,1,3,4,10,11,33,34,35],[],[])
  | _=>none
 | 87=>match b with
  | 0=>some ([0,1,5,6,7,8,41,42,43],[],[])
  | 2=>some ([0,5,6,8,80,81,82],[],[])
  | _=>none
 | 88=>match b with
  | 0=>some ([2,3,16,17,18],[],[])
  | _=>none
 | 89=>match b with
  | 0=>some ([1,2,5],[],[])
  | _=>none
 | 90=>match b with
  | 0=>some ([0,1,7,8],[],[])
  | _=>none
 | 91=>match b with
  | 0=>some ([3,7,8,9],[(3,none,1,false)],[])
  | 3=>some ([3,5,6,7,8,9],[(3,none,1,false)],[])
  | _=>none
 | 94=>match b with
  | 0=>some ([3,14,15,16],[(3,none,1,false)],[])
  | 2=>some ([3,5,14,15,16,27,28,29],[(3,none,1,false)],[])
  | 4=>some ([3,5,14,15,16,47,48,49],[(3,none,1,false)],[])
  | 6=>some ([3,14,15,16,66,67,68],[(3,none,1,false)],[])
  | _=>none
 | 97=>match b with
  | 0=>some ([2,3,9,10,11],[(3,none,5,true)],[])
  | 2=>some ([2,3,5,9,10,11,33,34],[],[])
  | 4=>some ([2,3,5,9,10,11,52,53],[],[])
  | _=>none
 | 99=>match b with
  | 0=>some ([0,1,15,16,17],[],[])
  | _=>none
 | 101=>match b with
  | 0=>some ([0,22],[],[])
  | _=>none
 | 102=>match b with
  | 0=>some ([0,3,22,23,24],[],[])
  | _=>none
 | 103=>match b with
  | 0=>some ([0,1,5,31,32,33],[(5,none,3,false)],[])
  | 2=>some ([0,1,5,6,7,8,9,31,32,33,63,64,65],[],[])
  | 4=>some ([0,1,5,6,7,8,9,14,31,32,33,88,89,90],[],[])
  | 6=>some ([0,1,5,7,8,14,31,32,33,129,130,131],[],[])
  | _=>none
 | 104=>match b with
  | 0=>some ([0,5,17,18,19],[],[])
  | 2=>some ([0,5,7,8,9,17,18,19,45,46,47],[],[])
  | 4=>some ([0,5,9,17,18,19,79,80,81],[],[])
  | _=>none
 | 105=>match b with
  | 0=>some ([0,5,29,30,31],[],[])
  | 2=>some ([0,5,7,8,9,10,29,30,31,52,53,54],[],[])
  | 4=>some ([0,5,7,8,9,10,13,29,30,31,69,70,71],[(13,none,1,true)],[])
  | _=>none
 | 108=>match b with
  | 0=>some ([3,14,15,16],[],[])
  | _=>none
 | 109=>match b with
  | 0=>some ([0,2,3,13,14,15],[],[])
  | 2=>some ([0,2,3,6,13,14,15,29,30,31],[],[])
  | _=>none
 | 112=>match b with
  | 0=>some ([1,2,7,8,9],[],[])
  | _=>none
 | 114=>match b with
  | 0=>some ([0,1,7,8],[],[])
  | _=>none
 | 116=>match b with
  | 0=>some ([0,6,37,38,39],[],[])
  | 2=>some ([0,6,52,53,54],[],[])
  | _=>none
 | 144=>match b with
  | 1=>some ([1,23,24],[],[])
  | _=>none
 | 148=>match b with
  | 0=>some ([1,2,14,15,16],[],[])
  | 2=>some ([1,2,6,7,14,15,16,21,22,23],[],[])
  | _=>none
 | 157=>match b with
  | 0=>some ([0,1,7,8,9],[],[])
  | _=>none
 | 164=>match b with
  | 0=>some ([0,5,6,7],[(5,none,1,false)],[])
  | _=>none
 | 165=>match b with
  | 0=>some ([5,12,13,14],[],[])
  | _=>none
 | 167=>match b with
  | 0=>some ([0,4,18,19,20],[],[])
  | 2=>some ([0,4,6,18,19,20,52,53,54],[],[])
  | 4=>some ([0,4,6,8,18,19,20,52,53,54,59,60,61],[],[])
  | _=>none
 | 168=>match b with
  | 0=>some ([0,7,8,28,29,30],[],[])
  | _=>none
 | 169=>match b with
  | 0=>some ([0,37,38,39],[],[])
  | 2=>some ([0,3,4,5,37,38,39,71,72,73],[(5,none,1,true)],[])
  | _=>none
 | 170=>match b with
  | 0=>some ([1,12,13,14],[],[])
  | _=>none
 | 171=>match b with
  | 0=>some ([1,15,16,17],[],[])
  | 2=>some ([1,3,4,15,16,17,23,24,25],[],[])
  | _=>none
 | 172=>match b with
  | 0=>some ([0,1,7,8],[],[])
  | _=>none
 | 175=>match b with
  | 0=>some ([0,3,20,21,22],[],[])
  | 2=>some ([0,3,54,55,56],[],[])
  | 4=>some ([0,79,80,81],[],[])
  | _=>none
 | 176=>match b with
  | 0=>some ([0,10,11,12],[],[])
  | _=>none
 | 177=>match b with
  | 0=>some ([1,2,15,16,17],[],[])
  | _=>none
 | 178=>match b with
  | 0=>some ([0,1,12,13],[],[])
  | _=>none
 | 179=>match b with
  | 0=>some ([2,3,6,7,11,12,13],[(6,none,3,true)],[])
  | _=>none
 | 181=>match b with
  | 0=>some ([0,2,4,35,36,37],[],[])
  | 2=>some ([0,2,4,9,10,12,35,36,37],[],[])
  | 4=>some ([0,2,4,66,67,68],[],[])
  | _=>none
 | 183=>match b with
  | 0=>some ([3,8,9,10],[(3,none,1,false)],[])
  | 3=>some ([3,6,7,8,9,10],[(3,none,1,false)],[])
  | _=>none
 | 185=>match b with
  | 0=>some ([0,1,7,8],[],[])
  | _=>none
 | 190=>match b with
  | 0=>some ([0,12,13,14],[],[])
  | _=>none
 | 191=>match b with
  | 0=>some ([0,23,24,25],[],[])
  | 2=>some ([0,5,6,23,24,25,53,54,55],[],[])
  | 4=>some ([0,5,6,10,23,24,25,53,54,55,60,61,62],[],[])
  | 6=>some ([0,5,6,23,24,25,105,106,107],[],[])
  | 8=>some ([0,5,6,23,24,25,137,138,139],[],[])
  | _=>none
 | 192=>match b with
  | 0=>some ([0,1,4,6,21,22,23],[],[])
  | 2=>some ([0,1,4,10,47,48,49],[],[])
  | 4=>some ([0,4,10,98,99,100],[],[])
  | _=>none
 | 193=>match b with
  | 0=>some ([2,3,5,25,26,27],[],[])
  | 2=>some ([2,3,5,6,7,25,26,27,41,42,43],[],[])
  | 4=>some ([2,3,5,64,65,66],[],[])
  | 6=>some ([2,3,5,12,13,64,65,66,72,73,74],[],[])
  | 8=>some ([2,3,5,12,13,15,64,65,66,72,73,74,83,84,85],[],[])
  | _=>none
 | 206=>match b with
  | 0=>some ([0,1,2,11,12,13],[],[])
  | _=>none
 | 212=>match b with
  | 0=>some ([0,1,8,9],[],[])
  | _=>none
 | 213=>match b with
  | 0=>some ([0,3,4,5,8,9],[(3,none,1,false)],[])
  | _=>none
 | 220=>match b with
  | 0=>some ([1,2,15,16,17],[],[])
  | _=>none
 | 221=>match b with
  | 0=>some ([1,15,16,17],[],[])
  | _=>none
 | 222=>match b with
  | 0=>some ([0,2,4,33,34,35],[],[])
  | 2=>some ([0,2,4,65,66,67],[],[])
  | _=>none
 | 225=>match b with
  | 0=>some ([1,3,7,13,14,15],[],[])
  | _=>none
 | 231=>match b with
  | 0=>some ([0,10,11,12],[],[])
  | _=>none
 | 233=>match b with
  | 0=>some ([0,1,2,8,9,10],[],[])
  | _=>none
 | 235=>match b with
  | 0=>some ([0,1,11,12],[],[])
  | _=>none
 | 248=>match b with
  | 0=>some ([6,7,8],[],[])
  | _=>none
 | 249=>match b with
  | 0=>some ([1,2,15,16,17],[],[])
  | _=>none
 | 262=>match b with
  | 1=>some ([0,1,5,6,7,8,9,10],[],[])
  | _=>none
 | 270=>match b with
  | 0=>some ([3,6,7,8],[],[])
  | _=>none
 | 271=>match b with
  | 0=>some ([0,1,7,8],[],[])
  | _=>none
 | 276=>match b with
  | 0=>some ([0,1,2,6,7,8],[],[])
  | 2=>some ([0,1,2,6],[],[])
  | 4=>some ([0,1,2,6,7,8],[],[])
  | _=>none
 | 296=>match b with
  | 0=>some ([2,3,4,5],[],[])
  | 2=>some ([2,3,4,5,6],[],[])
  | _=>none
 | 301=>match b with
  | 0=>some ([0,1,2,3,8],[],[])
  | 2=>some ([0,1,2,3,8,9],[],[])
  | _=>none
 | 302=>match b with
  | 0=>some ([0,1,4,10,11],[],[])
  | 2=>some ([0,10,13],[],[])
  | 4=>some ([0,2,4,14,15],[],[])
  | 6=>some ([0,14,17],[],[])
  | 8=>some ([0,1,2,3,4,18,19,20,21,22],[],[])
  | _=>none
 | 311=>match b with
  | 0=>some ([0,2,3,14,15],[],[])
  | _=>none
 | 316=>match b with
  | 0=>some ([3,6,7,8],[],[])
  | _=>none
 | 318=>match b with
  | 0=>some ([0,2,4,10,11],[],[])
  | _=>none
 | 322=>match b with
  | 0=>some ([0,1,3,4,5,12,13,14],[],[])
  | _=>none
 | 331=>match b with
  | 0=>some ([0,1,2,3,10],[],[])
  | _=>none
 | _=>none
/-- Behind loops: the slots that live on. -/
def out (f b:Nat):Option (List Nat) :=
 match f with
 | 3=>match b with
  | 0=>some [4,5]
  | _=>none
 | 4=>match b with
  | 0=>some [0,2,3]
  | 2=>some [2,3]
  | 4=>some [0,2,3,5,7,34,35]
  | 6=>some [0,2,3,5,6,7,34,35,67,68,69]
  | _=>none
 | 5=>match b with
  | 0=>some [6,7]
  | 2=>some [0,2,4,6,7,8,22]
  | 4=>some [0,2,4,6,7,8,22,24,25,26]
  | _=>none
 | 8=>match b with
  | 0=>some [8]
  | _=>none
 | 9=>match b with
  | 0=>some [8]
  | 2=>some [2,3,8,10,11,12,39,40,41]
  | 4=>some [2,3,8,10,11,12,39,40,41,53,54,55]
  | 6=>some [2,3,8,10,11,12,39,40,41]
  | 8=>some [2,3,8,39,40,41]
  | 10=>some [2,3,8,10,11,12,39,40,41,113,114,115]
  | _=>none
 | 11=>match b with
  | 0=>some []
  | _=>none
 | 12=>match b with
  | 0=>some [0,4,5]
  | 2=>some [4,5]
  | 4=>some [0,4,5,8,51,52]
  | _=>none
 | 14=>match b with
  | 0=>some []
  | _=>none
 | 21=>match b with
  | 0=>some [1]
  | 2=>some []
  | 4=>some [1,49,50,51]
  | 6=>some [1,8,49,50,51,56,57,58]
  | _=>none
 | 22=>match b with
  | 0=>some [3]
  | _=>none
 | 24=>match b with
  | 0=>some [1,2,3,4]
  | 2=>some [1,2,3,4,14,15,16]
  | 4=>some [2,3]
  | 6=>some [1,2,3,4]
  | _=>none
 | 26=>match b with
  | 0=>some [5]
  | _=>none
 | 27=>match b with
  | 0=>some [0,2]
  | _=>none
 | 31=>match b with
  | 0=>some []
  | _=>none
 | 34=>match b with
  | 0=>some []
  | 2=>some [3,19,20,21]
  | 4=>some [3,6,19,20,21,39,40,41]
  | _=>none
 | 35=>match b with
  | 0=>some [0,1,4]
  | 2=>some [0,1,4,29,30,31]
  | 4=>some [0,1,4]
  | 6=>some []
  | _=>none
 | 36=>match b with
  | 0=>some [2,3,4]
  | 2=>some []
  | 4=>some [2,4,9,10,41,42,43]
  | _=>none
 | 38=>match b with
  | 0=>some []
  | _=>none
 | 41=>match b with
  | 0=>some [8,9]
  | _=>none
 | 45=>match b with
  | 0=>some [0,2,6,7,8]
  | _=>none
 | 54=>match b with
  | 0=>some [0,1,5]
  | 2=>some [5]
  | _=>none
 | 56=>match b with
  | 0=>some []
  | _=>none
 | 57=>match b with
  | 0=>some []
  | _=>none
 | 60=>match b with
  | 0=>some [1]
  | 3=>some [1]
  | 6=>some [1]
  | 8=>some []
  | _=>none
 | 62=>match b with
  | 0=>some [2,3]
  | _=>none
 | 63=>match b with
  | 0=>some [3,4]
  | 2=>some [1,3,4,18,19,20]
  | 4=>some [4]
  | 6=>some [3,4,48,49]
  | 8=>some [3,4,9,48,49,52,53]
  | _=>none
 | 71=>match b with
  | 0=>some [4]
  | _=>none
 | 73=>match b with
  | 0=>some []
  | _=>none
 | 75=>match b with
  | 0=>some []
  | _=>none
 | 82=>match b with
  | 0=>some []
  | _=>none
 | 86=>match b with
  | 0=>some []
  | _=>none
 | 87=>match b with
  | 0=>some [0,1,5,6,8]
  | 2=>some []
  | _=>none
 | 88=>match b with
  | 0=>some []
  | _=>none
 | 89=>match b with
  | 0=>some [1,2]
  | _=>none
 | 90=>match b with
  | 0=>some []
  | _=>none
 | 91=>match b with
  | 0=>some [3]
  | 3=>some [3,7,8,9]
  | _=>none
 | 94=>match b with
  | 0=>some [3]
  | 2=>some [3,5,14,15,16]
  | 4=>some [3,5,14,15,16]
  | 6=>some [3,14,15,16]
  | _=>none
 | 97=>match b with
  | 0=>some [2,3]
  | 2=>some [2,3,5,9,10,11]
  | 4=>some [2,3,5,9,10,11]
  | _=>none
 | 99=>match b with
  | 0=>some [0,1]
  | _=>none
 | 101=>match b with
  | 0=>some []
  | _=>none
 | 102=>match b with
  | 0=>some [3]
  | _=>none
 | 103=>match b with
  | 0=>some [5]
  | 2=>some [0,1,5,6,7,8,9,31,32,33]
  | 4=>some [0,1,5,6,7,8,14,31,32,33]
  | 6=>some [0,1,5,8,31,32,33]
  | _=>none
 | 104=>match b with
  | 0=>some [5]
  | 2=>some [0,5,7,9,17,18,19]
  | 4=>some [0,5,17,18,19]
  | _=>none
 | 105=>match b with
  | 0=>some [5]
  | 2=>some [0,5,7,8,9,10,29,30,31]
  | 4=>some [0,5,7,8,9,13,29,30,31]
  | _=>none
 | 108=>match b with
  | 0=>some [3]
  | _=>none
 | 109=>match b with
  | 0=>some [2,3]
  | 2=>some [0,2,3,6,13,14,15]
  | _=>none
 | 112=>match b with
  | 0=>some []
  | _=>none
 | 114=>match b with
  | 0=>some []
  | _=>none
 | 116=>match b with
  | 0=>some [0,6]
  | 2=>some [0,6]
  | _=>none
 | 144=>match b with
  | 1=>some []
  | _=>none
 | 148=>match b with
  | 0=>some []
  | 2=>some [1,2,14,15,16]
  | _=>none
 | 157=>match b with
  | 0=>some [1]
  | _=>none
 | 164=>match b with
  | 0=>some [5]
  | _=>none
 | 165=>match b with
  | 0=>some [5]
  | _=>none
 | 167=>match b with
  | 0=>some []
  | 2=>some [0,4,18,19,20]
  | 4=>some [0,4,6,18,19,20,52,53,54]
  | _=>none
 | 168=>match b with
  | 0=>some [7,8]
  | _=>none
 | 169=>match b with
  | 0=>some []
  | 2=>some [0,3,4,5,37,38,39]
  | _=>none
 | 170=>match b with
  | 0=>some []
  | _=>none
 | 171=>match b with
  | 0=>some []
  | 2=>some [1,15,16,17]
  | _=>none
 | 172=>match b with
  | 0=>some []
  | _=>none
 | 175=>match b with
  | 0=>some [0,3]
  | 2=>some [0,3]
  | 4=>some []
  | _=>none
 | 176=>match b with
  | 0=>some []
  | _=>none
 | 177=>match b with
  | 0=>some []
  | _=>none
 | 178=>match b with
  | 0=>some []
  | _=>none
 | 179=>match b with
  | 0=>some [6,7]
  | _=>none
 | 181=>match b with
  | 0=>some [0,2,4]
  | 2=>some [0,2,4,35,36,37]
  | 4=>some []
  | _=>none
 | 183=>match b with
  | 0=>some [3]
  | 3=>some [3,8,9,10]
  | _=>none
 | 185=>match b with
  | 0=>some []
  | _=>none
 | 190=>match b with
  | 0=>some []
  | _=>none
 | 191=>match b with
  | 0=>some []
  | 2=>some [0,5,6,23,24,25]
  | 4=>some [0,5,6,23,24,25,53,54,55]
  | 6=>some [0,5,6,23,24,25]
  | 8=>some [0,23,24,25]
  | _=>none
 | 192=>match b with
  | 0=>some [0,1,4]
  | 2=>some [0,1,4,10]
  | 4=>some [4,10]
  | _=>none
 | 193=>match b with
  | 0=>some [2,3,5]
  | 2=>some [2,3,5,25,26,27]
  | 4=>some []
  | 6=>some [2,3,5,64,65,66]
  | 8=>some [2,3,5,12,13,64,65,66,72,73,74]
  | _=>none
 | 206=>match b with
  | 0=>some [0,1]
  | _=>none
 | 212=>match b with
  | 0=>some [0]
  | _=>none
 | 213=>match b with
  | 0=>some [0,3,5]
  | _=>none
 | 220=>match b with
  | 0=>some []
  | _=>none
 | 221=>match b with
  | 0=>some []
  | _=>none
 | 222=>match b with
  | 0=>some [0,2,4]
  | 2=>some []
  | _=>none
 | 225=>match b with
  | 0=>some []
  | _=>none
 | 231=>match b with
  | 0=>some []
  | _=>none
 | 233=>match b with
  | 0=>some [0,1,2,8,9]
  | _=>none
 | 235=>match b with
  | 0=>some [0,1]
  | _=>none
 | 248=>match b with
  | 0=>some []
  | _=>none
 | 249=>match b with
  | 0=>some []
  | _=>none
 | 262=>match b with
  | 1=>some []
  | _=>none
 | 270=>match b with
  | 0=>some [3]
  | _=>none
 | 271=>match b with
  | 0=>some []
  | _=>none
 | 276=>match b with
  | 0=>some [0,1,2,6,7]
  | 2=>some []
  | 4=>some [0,1,2,6,7]
  | _=>none
 | 296=>match b with
  | 0=>some [2,3,4,5]
  | 2=>some [2,3,4,5,6]
  | _=>none
 | 301=>match b with
  | 0=>some []
  | 2=>some [0,1,2,3,8]
  | _=>none
 | 302=>match b with
  | 0=>some [0,1,10]
  | 2=>some []
  | 4=>some [0,2,14]
  | 6=>some []
  | 8=>some [0,1,2,3,4,18,19,20]
  | _=>none
 | 311=>match b with
  | 0=>some [0,2,3]
  | _=>none
 | 316=>match b with
  | 0=>some [3]
  | _=>none
 | 318=>match b with
  | 0=>some [0,2,4,10]
  | _=>none
 | 322=>match b with
  | 0=>some [3,4,5,12,13]
  | _=>none
 | 331=>match b with
  | 0=>some []
  | _=>none
 | _=>none
/-- Behind regions: the slots that live on, and what is done with slices. -/
def post (f:Nat):List (Nat×List Nat×List Pop) :=
 match f with
 | 4=>[(7,[0,2,3,34,35],[.cell 3 0]),(25,[0,2,3,13,34,35],[.cell 13 0])]
 | 7=>[(13,[0,3,4,5,6,52,54,91],[.whenT 91,.keep [0,3,4,5,6,52,54,91],.opt 52 0]),(19,[0,3,4,5,133],[.whenT 133,.opt 5 1,.keep [0,3,4,133],.cell 3 0])]
 | 12=>[(10,[0,4,5,51,52],[.cell 5 1,.cell 5 2])]
 | 22=>[(7,[2],[.cell 2 1])]
 | 45=>[(8,[0,2,6,7,8,25,26,27,28],[.whenF 28,.row 7 0 0 1,.row 7 0 0 2,.row 7 0 0 3,.row 7 0 0 4,.cell 7 0]),(11,[0,2,6,7,8,25,26,27],[.whenN 7 0 1,.row 7 0 1 1,.row 7 0 1 2,.row 7 0 1 3,.row 7 0 1 4,.new 7 0 1 6 true,.new 7 0 3 3 true,.new 7 0 4 3 true,.tidy])]
 | _=>[]
/-- The functions whose code is checked. -/
def goods:List Nat:=[3,4,5,6,7,8,9,10,11,12,13,14,15,16,17,18,19,20,21,22,23,24,25,26,27,28,29,30,31,32,33,34,35,36,37,38,39,40,41,42,43,44,45,46,47,48,49,50,51,52,53,54,55,56,57,58,59,60,61,62,63,64,65,66,67,68,69,70,71,73,74,75,76,77,78,79,80,81,82,83,84,85,86,87,88,89,90,91,92,93,94,95,96,97,98,99,100,101,102,103,104,105,106,107,108,109,110,111,112,113,114,115,116,117,122,123,125,126,127,128,129,130,131,132,133,134,135,136,137,138,139,140,141,142,143,144,145,146,147,148,149,153,154,155,156,157,158,159,160,161,162,163,164,165,166,167,168,169,170,171,172,173,174,175,176,177,178,179,180,181,182,183,184,185,186,187,189,190,191,192,193,196,199,200,201,202,203,204,205,206,207,208,209,211,212,213,214,215,216,217,218,219,220,221,222,223,224,225,226,227,228,229,230,231,232,233,234,235,236,237,238,239,240,248,249,250,251,252,255,256,258,262,265,269,270,271,272,273,274,275,276,279,281,282,292,296,297,298,299,300,301,302,310,311,314,315,316,317,318,322,329,330,331,332,344]
theorem all_cut {p:Nat→Bool} {l:List Nat} {n:Nat} (h:(l.take n).all p=true) (h2:(l.drop n).all p=true):l.all p=true:=by
 rw [←List.take_append_drop n l,List.all_append,h,h2];rfl
def goods0:List Nat:=goods
def goods1:List Nat:=goods0.drop 30
def goods2:List Nat:=goods1.drop 30
def goods3:List Nat:=goods2.drop 30
def goods4:List Nat:=goods3.drop 30
def goods5:List Nat:=goods4.drop 30
def goods6:List Nat:=goods5.drop 30
def goods7:List Nat:=goods6.drop 30
def goods8:List Nat:=goods7.drop 30
def goods9:List Nat:=goods8.drop 30
theorem goodsOk0:(goods0.take 30).all (goodB Tryz.prog dyn)=true:=by decide +kernel
theorem goodsOk1:(goods1.take 30).all (goodB Tryz.prog dyn)=true:=by decide +kernel
theorem goodsOk2:(goods2.take 30).all (goodB Tryz.prog dyn)=true:=by decide +kernel
theorem goodsOk3:(goods3.take 30).all (goodB Tryz.prog dyn)=true:=by decide +kernel
theorem goodsOk4:(goods4.take 30).all (goodB Tryz.prog dyn)=true:=by decide +kernel
theorem goodsOk5:(goods5.take 30).all (goodB Tryz.prog dyn)=true:=by decide +kernel
theorem goodsOk6:(goods6.take 30).all (goodB Tryz.prog dyn)=true:=by decide +kernel
theorem goodsOk7:(goods7.take 30).all (goodB Tryz.prog dyn)=true:=by decide +kernel
theorem goodsOk8:(goods8.take 30).all (goodB Tryz.prog dyn)=true:=by decide +kernel
theorem goodsEnd:goods9.all (goodB Tryz.prog dyn)=true:=by decide +kernel
theorem goods_ok:goods.all (goodB Tryz.prog dyn)=true:=(all_cut (l:=goods0) (n:=30) goodsOk0 (all_cut (l:=goods1) (n:=30) goodsOk1 (all_cut (l:=goods2) (n:=30) goodsOk2 (all_cut (l:=goods3) (n:=30) goodsOk3 (all_cut (l:=goods4) (n:=30) goodsOk4 (all_cut (l:=goods5) (n:=30) goodsOk5 (all_cut (l:=goods6) (n:=30) goodsOk6 (all_cut (l:=goods7) (n:=30) goodsOk7 (all_cut (l:=goods8) (n:=30) goodsOk8 goodsEnd)))))))))
/-- At entry: slices of pointed-at variables that become ones under making. -/
def ownA (f:Nat):List (Nat×Nat×Nat) :=
 match f with
 | 122=>[(0,1,5)]
 | 298=>[(0,1,5)]
 | _=>[]
noncomputable def K0:Cfg:={ P:=Tryz.prog,prim:=prim,primH:=primH,ownA:=ownA,bT:=205,wrT:=wrT,nlT:=nlT,nlA:=nlA,live:=live,ret:=ret,good:=fun f=>goods.contains f,dyn:=dyn,out:=out,post:=post }
theorem K0_ok:CfgOk Lay K0 where
 prim:=prim_ok
 primH:=primH_ok
 good:=fun f h=>by
  have h1:f∈goods:=by simpa [K0] using h
  exact goodB_ok (C:=K0) (List.all_eq_true.1 goods_ok f h1)
 mixed:=by show Tryz.prog.follows .mixedOrders=true;decide +kernel
end Go.Ab
