/- What is proved: the configuration of the evaluator at this seat's program, with the library's functions by their contracts. What is proved: that the evaluator's configuration at this seat's program is right. Conditions: none. -/
import Derived.Test.YtdhobhodbficjaaGreatDoorMX4
import Derived.Shelf.Strings.SlTrimAscii
import Derived.Test.YtdhobhodbficjaaGreatDoorShelf
set_option linter.unusedSimpArgs false
set_option linter.unusedVariables false
namespace Go.Ab
open Go Go.Proofs
/-- What is asked of package-level variables. -/
def ErrCell (w:World) (g:Nat):Prop:=∃ ev,w.cell? ⟨g,0,none⟩=some ev∧(ev=.nilIface∨∃ te pe,ev=.iface te pe)
def Lay (w:World):Prop:=(∃ m,w.cell? ⟨0,0,none⟩=some (.int .i64 m))∧(ErrCell w 6∧ErrCell w 7)∧Lib.TabIs Tryz.prog w "internal/strconv.uint64pow10" .u64 Lib.pow10Tab∧Lib.TabIs Tryz.prog w "strings.asciiSpace" .u8 Lib.asciiSpaceTab
def fits (n:Int):Bool:=decide (-9223372036854775808≤n)&&decide (n≤9223372036854775807)
def pFormatBool:List AV→Option AV
 | [.bool b]=>some (.str (Lib.formatBool b))
 | _=>none
def pItoa:List AV→Option AV
 | [.int .i64 n]=>if fits n=true then some (.str (Lib.itoa n)) else none
 | _=>none
def pReplaceAll:List AV→Option AV
 | [.str s,.str o,.str n]=>if decide (s.length < 4294967281)&&(decide (1≤o.length)&&decide (s.length+Lib.countB ⟨s.toArray⟩ ⟨o.toArray⟩*n.length≤140737488355328)) then some (.str (Lib.replaceAll s o n)) else none
 | _=>none
def pHasPrefix:List AV→Option AV
 | [.str s,.str p]=>some (.bool (Lib.hasPrefix s p))
 | _=>none
def pCut:List AV→Option AV
 | [.str s,.str p]=>if decide (s.length < 4294967281) then some (.tup [.str (Lib.cut s p).1,.str (Lib.cut s p).2.1,.bool (Lib.cut s p).2.2]) else none
 | _=>none
def pFields:List AV→Option AV
 | [.str s]=>if decide (s.length < 4294967281)&&s.all (fun b=>decide (b.toNat < 128)) then some (.rows ((Lib.fields s).map fun l=>[.str l])) else none
 | _=>none
def pMul64:List AV→Option AV
 | [.int .u64 x,.int .u64 y]=>if decide (0≤x∧x < 18446744073709551616∧0≤y∧y < 18446744073709551616) then some (.tup [.int .u64 (x*y / 18446744073709551616),.int .u64 (x*y % 18446744073709551616)]) else none
 | _=>none
def pAtoi:List AV→Option AV
 | [.str s]=>if decide (s.length≤281474976710656) then some (match Lib.atoiAll s with
  | .ok v=>.tup [.int .i64 v,.nili]
  | .range=>.tup [.int .i64 (Lib.atoiSat s),.iface 486 .any]
  | _=>.tup [.int .i64 0,.iface 486 .any]) else none
 | _=>none
def pRepeat:List AV→Option AV
 | [.str s,.int .i64 c]=>if decide (0≤c)&&(decide (c≤9223372036854775807)&&decide (s.length*c.toNat≤140737488355328)) then some (.str (Lib.repeatL s c.toNat)) else none
 | _=>none
def ascii (s:List UInt8):Bool:=s.all fun b=>decide (b.toNat < 128)
def pLower:List AV→Option AV
 | [.str s]=>if decide (s.length≤140737488355328)&&ascii s then some (.str (Lib.toLowerA s)) else none
 | _=>none
def pUpper:List AV→Option AV
 | [.str s]=>if decide (s.length≤140737488355328)&&ascii s then some (.str (Lib.toUpperA s)) else none
 | _=>none
def pContains:List AV→Option AV
 | [.str s,.str p]=>if decide (s.length < 4294967281) then some (.bool (Lib.contains s p)) else none
 | _=>none
def strsOf:List (List AV)→Option (List (List UInt8))
 | []=>some []
 | [.str s]::r=>match strsOf r with
  | some l=>some (s::l)
  | none=>none
 | _=>none
def pTrim:List AV→Option AV
 | [.str s,.str cs]=>if decide (s.length≤9223372036854775807)&&(decide (cs.length < 4294967281)&&ascii cs) then some (.str (Lib.trimS s cs)) else none
 | _=>none
def pIndexByte:List AV→Option AV
 | [.str s,.int .u8 c]=>some (.int .i64 (Lib.indexByte s c.toNat.toUInt8))
 | _=>none
def pBitsLen:List AV→Option AV
 | [.int .u64 x]=>if decide (0≤x)&&decide (x≤18446744073709551615) then some (.int .i64 (Lib.bitLen x.toNat)) else none
 | _=>none
def primH (f:Nat) (args:List AV) (h:Heap):Option (AV×Heap) :=
 match f with
 | 29=>pCopyCheck 67 args h
 | 21=>pBString2 67 5 args h
 | _=>none
def prim (f:Nat) (args:List AV):Option AV :=
 match f with
 | 433=>pIndexByte args
 | 484=>pIndexByte args
 | 472=>pBitsLen args
 | 200=>pTrim args
 | 444=>pContains args
 | 294=>pFormatBool args
 | 293=>pItoa args
 | 505=>pReplaceAll args
 | 17=>pHasPrefix args
 | 469=>pCut args
 | 436=>pFields args
 | 27=>pMul64 args
 | 395=>pAtoi args
 | 8=>pRepeat args
 | 423=>pLower args
 | 424=>pUpper args
 | _=>none
theorem str2 {M:Nat→Nat→Prop} {w:World} {s p:List UInt8} (vs:List Value) (h:PRepL M w [.str s,.str p] vs):vs=[.string ⟨s.toArray⟩,.string ⟨p.toArray⟩]:=by
 obtain ⟨v,vr,rfl,h1,v2,vr2,rfl,h2,h3⟩:=h
 have e1:v=.string ⟨s.toArray⟩:=h1
 have e2:v2=.string ⟨p.toArray⟩:=h2
 have e3:vr2=[]:=h3
 rw [e1,e2,e3]
theorem below_grow (w:World) (k:Nat) (os:Array Obj):RowKit.Below w.heap.size w (Sort.grow (w.drewN k) os) :=
 ⟨rfl,rfl,rfl,by simp [Sort.grow,World.drewN],fun b hb=>by simp only [Sort.grow,World.drewN];exact Array.getElem?_append_left hb⟩
def PrimOk (f:Nat) (p:List AV→Option AV):Prop:=∀ args v,p args=some v→Enters Tryz.prog f∧Called Lay Tryz.prog f args [] v []
theorem pFormatBool_ok:PrimOk 294 pFormatBool:=by
 intro args v e
 unfold pFormatBool at e
 split at e
 ·rename_i b
  simp only [Option.some.injEq] at e
  subst e
  refine ⟨enters_of Tryz.func294 (by decide) rfl,prim_of (vs0:=[.bool b]) (v:=.string ⟨(Lib.formatBool b).toArray⟩) (fun M w vs h=>?_) (fun _ _=>rfl) fun w _=>(Tryz.strconv_FormatBool b w).mono ?_⟩
  ·obtain ⟨v,vr,rfl,h1,h2⟩:=h
   have e1:v=.bool b:=h1
   have e2:vr=[]:=h2
   rw [e1,e2]
  ·rintro e w' ⟨rfl,rfl⟩
   exact ⟨rfl,below_refl _⟩
 ·simp at e
theorem pItoa_ok:PrimOk 293 pItoa:=by
 intro args v e
 unfold pItoa at e
 split at e
 ·rename_i n
  split at e
  ·rename_i hf
   simp only [fits,Bool.and_eq_true,decide_eq_true_eq] at hf
   simp only [Option.some.injEq] at e
   subst e
   refine ⟨enters_of Tryz.func293 (by decide) rfl,prim_of (vs0:=[.int .i64 n]) (v:=.string ⟨(Lib.itoa n).toArray⟩) (fun M w vs h=>?_) (fun _ _=>rfl) fun w hw=>(Tryz.strconv_Itoa n hf.1 hf.2 w hw.2.2.1).mono ?_⟩
   ·obtain ⟨v,vr,rfl,h1,h2⟩:=h
    have e1:v=.int .i64 n:=h1
    have e2:vr=[]:=h2
    rw [e1,e2]
   ·rintro e w' ⟨rfl,k,os,rfl⟩
    exact ⟨rfl,below_grow _ _ _⟩
  ·simp at e
 ·simp at e
theorem pReplaceAll_ok:PrimOk 505 pReplaceAll:=by
 intro args v e
 unfold pReplaceAll at e
 split at e
 ·rename_i s o n
  split at e
  ·rename_i hf
   simp only [Bool.and_eq_true,decide_eq_true_eq] at hf
   simp only [Option.some.injEq] at e
   subst e
   refine ⟨enters_of Tryz.func505 (by decide) rfl,prim_of (vs0:=[.string ⟨s.toArray⟩,.string ⟨o.toArray⟩,.string ⟨n.toArray⟩]) (v:=.string ⟨(Lib.replaceAll s o n).toArray⟩) (fun M w vs h=>?_) (fun _ _=>rfl) fun w hw=>?_⟩
   ·obtain ⟨v,vr,rfl,h1,h2⟩:=h
    have e1:v=.string ⟨s.toArray⟩:=h1
    rw [e1,str2 vr h2]
   ·obtain ⟨m,hm⟩:=hw.1
    refine (Tryz.strings_ReplaceAll ⟨s.toArray⟩ ⟨o.toArray⟩ ⟨n.toArray⟩ m w (by simpa [ByteArray.size] using hf.1) hm (by simpa [ByteArray.size] using hf.2.1) (by simpa [ByteArray.size] using hf.2.2)).mono ?_
    rintro e w' ⟨rfl,hb⟩
    exact ⟨rfl,hb⟩
  ·simp at e
 ·simp at e
theorem pHasPrefix_ok:PrimOk 17 pHasPrefix:=by
 intro args v e
 unfold pHasPrefix at e
 split at e
 ·rename_i s p
  simp only [Option.some.injEq] at e
  subst e
  refine ⟨enters_of Tryz.func17 (by decide) rfl,prim_of (vs0:=[.string ⟨s.toArray⟩,.string ⟨p.toArray⟩]) (v:=.bool (Lib.hasPrefix s p)) (fun M w vs h=>str2 vs h) (fun _ _=>rfl) fun w _=>(Tryz.strings_HasPrefix _ _ w).mono ?_⟩
  rintro e w' ⟨rfl,rfl⟩
  exact ⟨rfl,below_refl _⟩
 ·simp at e
theorem pCut_ok:PrimOk 469 pCut:=by
 intro args v e
 unfold pCut at e
 split at e
 ·rename_i s p
  split at e
  ·rename_i hf
   simp only [decide_eq_true_eq] at hf
   simp only [Option.some.injEq] at e
   subst e
   refine ⟨enters_of Tryz.func469 (by decide) rfl,prim_of (vs0:=[.string ⟨s.toArray⟩,.string ⟨p.toArray⟩]) (v:=.tuple #[.string ⟨(Lib.cut s p).1.toArray⟩,.string ⟨(Lib.cut s p).2.1.toArray⟩,.bool (Lib.cut s p).2.2]) (fun M w vs h=>str2 vs h) (fun _ _=>⟨_,rfl,_,_,rfl,rfl,_,_,rfl,rfl,_,_,rfl,rfl,rfl⟩) fun w hw=>?_⟩
   obtain ⟨m,hm⟩:=hw.1
   refine (Tryz.strings_Cut ⟨s.toArray⟩ ⟨p.toArray⟩ m w (by simpa [ByteArray.size] using hf) hm).mono ?_
   rintro e w' ⟨rfl,n,rfl⟩
   exact ⟨rfl,below_drewN _ _⟩
  ·simp at e
 ·simp at e
theorem pFields_ok:PrimOk 436 pFields:=by
 intro args v e
 unfold pFields at e
 split at e
 ·rename_i s
  split at e
  ·rename_i hf
   simp only [Bool.and_eq_true,decide_eq_true_eq,List.all_eq_true] at hf
   simp only [Option.some.injEq] at e
   subst e
   refine ⟨enters_of Tryz.func436 (by decide) rfl,prim_at (vs0:=[.string ⟨s.toArray⟩]) (fun M w vs h=>?_) fun w hw=>?_⟩
   ·obtain ⟨v,vr,rfl,h1,h2⟩:=h
    have e1:v=.string ⟨s.toArray⟩:=h1
    have e2:vr=[]:=h2
    rw [e1,e2]
   ·refine (Tryz.strings_Fields ⟨s.toArray⟩ w (by simpa [ByteArray.size] using hf.1) (fun j b hb=>hf.2 b (List.mem_of_getElem? (by simpa using hb))) hw.2.2.2).mono ?_
    rintro e w' ⟨rfl,rfl⟩
    refine ⟨_,rfl,⟨rfl,rfl,rfl,by simp,fun b hb=>alloc_old _ hb⟩,fun M hM=>⟨some ⟨w.heap.size,0,none⟩,(Lib.fields s).length,by simp,by simp,.inr ⟨w.heap.size,0,1,rfl,PRows.of_at _ _ fun i row hrow=>?_⟩⟩⟩
    rw [List.getElem?_map] at hrow
    cases hl:(Lib.fields s)[i]? with
    | none=>simp [hl] at hrow
    | some l =>
     simp only [hl,Option.map_some,Option.some.injEq] at hrow
     subst hrow
     refine ⟨rfl,rfl,⟨.string ⟨l.toArray⟩,?_,fun hx=>?_,rfl⟩,trivial⟩
     ·simp only [World.cell?,alloc_new]
      simp [hl]
     ·have:=hM _ _ hx
      omega
  ·simp at e
 ·simp at e
theorem pMul64_ok:PrimOk 27 pMul64:=by
 intro args v e
 unfold pMul64 at e
 split at e
 ·rename_i x y
  split at e
  ·rename_i hf
   simp only [decide_eq_true_eq] at hf
   simp only [Option.some.injEq] at e
   subst e
   obtain ⟨x,rfl⟩:=Int.eq_ofNat_of_zero_le hf.1
   obtain ⟨y,rfl⟩:=Int.eq_ofNat_of_zero_le hf.2.2.1
   refine ⟨enters_of Tryz.func27 (by decide) rfl,prim_of (vs0:=[.int .u64 x,.int .u64 y]) (v:=.tuple #[.int .u64 ((x*y / 18446744073709551616:Nat):Int),.int .u64 ((x*y % 18446744073709551616:Nat):Int)]) (fun M w vs h=>?_) (fun _ _=>⟨_,rfl,_,_,rfl,by simp [PRep],_,_,rfl,by simp [PRep],rfl⟩) fun w _=>(Tryz.bits_Mul64 x y (by omega) (by omega) w).mono ?_⟩
   ·obtain ⟨v,vr,rfl,h1,v2,vr2,rfl,h2,h3⟩:=h
    have e1:v=.int .u64 x:=h1
    have e2:v2=.int .u64 y:=h2
    have e3:vr2=[]:=h3
    rw [e1,e2,e3]
   ·rintro e w' ⟨rfl,rfl⟩
    exact ⟨rfl,below_refl _⟩
  ·simp at e
 ·simp at e
theorem str1 {M:Nat→Nat→Prop} {w:World} {s:List UInt8} (vs:List Value) (h:PRepL M w [.str s] vs):vs=[.string ⟨s.toArray⟩]:=by
 obtain ⟨v,vr,rfl,h1,h2⟩:=h
 have e1:v=.string ⟨s.toArray⟩:=h1
 have e2:vr=[]:=h2
 rw [e1,e2]
theorem pAtoi_ok:PrimOk 395 pAtoi:=by
 intro args v e
 unfold pAtoi at e
 split at e
 ·rename_i s
  split at e
  ·rename_i hl
   simp only [decide_eq_true_eq] at hl
   simp only [Option.some.injEq] at e
   subst e
   refine ⟨enters_of Tryz.func395 (by decide) rfl,prim_at (vs0:=[.string ⟨s.toArray⟩]) (fun M w vs h=>str1 vs h) fun w hw=>?_⟩
   have hsz:(⟨s.toArray⟩:ByteArray).size=s.length:=rfl
   cases ha:Lib.atoiAll s with
   | ok v =>
    refine (Tryz.strconv_Atoi_ok ⟨s.toArray⟩ (by rw [hsz];omega) v ha w).mono ?_
    rintro e w' ⟨rfl,hb⟩
    refine ⟨_,rfl,?_,fun M _=>⟨_,rfl,_,_,rfl,rfl,_,_,rfl,rfl,rfl⟩⟩
    rcases hb with rfl | ⟨t,rfl⟩
    ·exact below_refl _
    ·exact Lib.bytesWorld_below _ _ _
   | range =>
    obtain ⟨ev,h1,h2⟩:=hw.2.1.2
    refine (Tryz.strconv_Atoi_range ⟨s.toArray⟩ (by rw [hsz];exact hl) ha ev w h1 h2).mono ?_
    rintro e w' ⟨N,rfl,_,_,hb⟩
    exact ⟨_,rfl,hb,fun M _=>⟨_,rfl,_,_,rfl,rfl,_,_,rfl,⟨_,rfl,trivial⟩,rfl⟩⟩
   | _ =>
    obtain ⟨ev,h1,h2⟩:=hw.2.1.1
    refine (Tryz.strconv_Atoi_syntax ⟨s.toArray⟩ (by rw [hsz];exact hl) ha ev w h1 h2).mono ?_
    rintro e w' ⟨N,rfl,_,_,hb⟩
    exact ⟨_,rfl,hb,fun M _=>⟨_,rfl,_,_,rfl,rfl,_,_,rfl,⟨_,rfl,trivial⟩,rfl⟩⟩
  ·simp at e
 ·simp at e
theorem pRepeat_ok:PrimOk 8 pRepeat:=by
 intro args v e
 unfold pRepeat at e
 split at e
 ·rename_i s c
  split at e
  ·rename_i hf
   simp only [Bool.and_eq_true,decide_eq_true_eq] at hf
   simp only [Option.some.injEq] at e
   subst e
   obtain ⟨c,rfl⟩:=Int.eq_ofNat_of_zero_le hf.1
   refine ⟨enters_of Tryz.func8 (by decide) rfl,prim_of (vs0:=[.string ⟨s.toArray⟩,.int .i64 c]) (v:=.string ⟨(Lib.repeatL s c).toArray⟩) (fun M w vs h=>?_) (fun _ _=>rfl) fun w _=>(Tryz.strings_Repeat ⟨s.toArray⟩ c w (by omega) (by simpa [ByteArray.size] using hf.2.2)).mono ?_⟩
   ·obtain ⟨v,vr,rfl,h1,v2,vr2,rfl,h2,h3⟩:=h
    have e1:v=.string ⟨s.toArray⟩:=h1
    have e2:v2=.int .i64 c:=h2
    have e3:vr2=[]:=h3
    rw [e1,e2,e3]
   ·rintro e w' ⟨rfl,hb⟩
    exact ⟨rfl,hb⟩
  ·simp at e
 ·simp at e
theorem pLower_ok:PrimOk 423 pLower:=by
 intro args v e
 unfold pLower at e
 split at e
 ·rename_i s
  split at e
  ·rename_i hf
   simp only [Bool.and_eq_true,decide_eq_true_eq,ascii,List.all_eq_true] at hf
   simp only [Option.some.injEq] at e
   subst e
   refine ⟨enters_of Tryz.func423 (by decide) rfl,prim_of (vs0:=[.string ⟨s.toArray⟩]) (v:=.string ⟨(Lib.toLowerA s).toArray⟩) (fun M w vs h=>str1 vs h) (fun _ _=>rfl) fun w _=>(Tryz.strings_ToLower_ascii ⟨s.toArray⟩ w hf.1 (fun j b hb=>hf.2 b (List.mem_of_getElem? (by simpa using hb)))).mono ?_⟩
   rintro e w' ⟨rfl,hb⟩
   exact ⟨rfl,hb⟩
  ·simp at e
 ·simp at e
theorem pUpper_ok:PrimOk 424 pUpper:=by
 intro args v e
 unfold pUpper at e
 split at e
 ·rename_i s
  split at e
  ·rename_i hf
   simp only [Bool.and_eq_true,decide_eq_true_eq,ascii,List.all_eq_true] at hf
   simp only [Option.some.injEq] at e
   subst e
   refine ⟨enters_of Tryz.func424 (by decide) rfl,prim_of (vs0:=[.string ⟨s.toArray⟩]) (v:=.string ⟨(Lib.toUpperA s).toArray⟩) (fun M w vs h=>str1 vs h) (fun _ _=>rfl) fun w _=>(Tryz.strings_ToUpper_ascii ⟨s.toArray⟩ w hf.1 (fun j b hb=>hf.2 b (List.mem_of_getElem? (by simpa using hb)))).mono ?_⟩
   rintro e w' ⟨rfl,hb⟩
   exact ⟨rfl,hb⟩
  ·simp at e
 ·simp at e
theorem pContains_ok:PrimOk 444 pContains:=by
 intro args v e
 unfold pContains at e
 split at e
 ·rename_i s p
  split at e
  ·rename_i hf
   simp only [decide_eq_true_eq] at hf
   simp only [Option.some.injEq] at e
   subst e
   refine ⟨enters_of Tryz.func444 (by decide) rfl,prim_of (vs0:=[.string ⟨s.toArray⟩,.string ⟨p.toArray⟩]) (v:=.bool (Lib.contains s p)) (fun M w vs h=>str2 vs h) (fun _ _=>rfl) fun w hw=>?_⟩
   obtain ⟨m,hm⟩:=hw.1
   refine (Tryz.strings_Contains ⟨s.toArray⟩ ⟨p.toArray⟩ m w (by simpa [ByteArray.size] using hf) hm).mono ?_
   rintro e w' ⟨rfl,rfl⟩
   exact ⟨rfl,below_refl _⟩
  ·simp at e
 ·simp at e
theorem strsOf_spec:∀ (rs:List (List AV)) (l:List (List UInt8)),strsOf rs=some l→rs=l.map fun s=>[.str s]
 | [],l,e=>by simp only [strsOf,Option.some.injEq] at e;subst e;rfl
 | row::r,l,e=>by
  unfold strsOf at e
  split at e
  ·simp at *
  ·rename_i s r' heq
   obtain ⟨rfl,rfl⟩:=List.cons.inj heq
   split at e
   ·rename_i l' hl
    simp only [Option.some.injEq] at e
    subst e
    rw [strsOf_spec r l' hl];rfl
   ·simp at e
  ·simp at e
theorem bytes_back:∀ l:List (List UInt8),(l.map fun s:List UInt8=>(⟨s.toArray⟩:ByteArray)).map (·.data.toList)=l
 | []=>rfl
 | s::l=>by
  simp only [List.map_cons]
  rw [bytes_back l]
theorem pTrim_ok:PrimOk 200 pTrim:=by
 intro args v e
 unfold pTrim at e
 split at e
 ·rename_i s cs
  split at e
  ·rename_i hf
   simp only [Bool.and_eq_true,decide_eq_true_eq,ascii,List.all_eq_true] at hf
   simp only [Option.some.injEq] at e
   subst e
   refine ⟨enters_of Tryz.func200 (by decide) rfl,prim_of (vs0:=[.string ⟨s.toArray⟩,.string ⟨cs.toArray⟩]) (v:=.string ⟨(Lib.trimS s cs).toArray⟩) (fun M w vs h=>str2 vs h) (fun _ _=>rfl) fun w _=>(Any.strings_Trim_laid Tryz.lays160 (by kernel_rfl) ⟨s.toArray⟩ ⟨cs.toArray⟩ w (by simpa [ByteArray.size] using hf.1) (by simpa [ByteArray.size] using hf.2.1) (fun j b hb=>hf.2.2 b (List.mem_of_getElem? (by simpa using hb)))).mono ?_⟩
   rintro e w' ⟨rfl,hb⟩
   exact ⟨rfl,hb⟩
  ·simp at e
 ·simp at e
theorem strInt {M:Nat→Nat→Prop} {w:World} {s:List UInt8} {k:IntKind} {c:Int} (vs:List Value) (h:PRepL M w [.str s,.int k c] vs):vs=[.string ⟨s.toArray⟩,.int k c]:=by
 obtain ⟨v,vr,rfl,h1,v2,vr2,rfl,h2,h3⟩:=h
 have e1:v=.string ⟨s.toArray⟩:=h1
 have e2:v2=.int k c:=h2
 have e3:vr2=[]:=h3
 rw [e1,e2,e3]
theorem pIndexByte_ok:PrimOk 433 pIndexByte:=by
 intro args v e
 unfold pIndexByte at e
 split at e
 ·rename_i s c
  simp only [Option.some.injEq] at e
  subst e
  refine ⟨enters_of Tryz.func433 (by decide) rfl,prim_of (vs0:=[.string ⟨s.toArray⟩,.int .u8 c]) (v:=.int .i64 (Lib.indexByte s c.toNat.toUInt8)) (fun M w vs h=>strInt vs h) (fun _ _=>rfl) fun w _=>(Tryz.strings_IndexByte ⟨s.toArray⟩ c w).mono ?_⟩
  rintro e w' ⟨rfl,rfl⟩
  exact ⟨rfl,below_refl _⟩
 ·simp at e
theorem pIndexByteL_ok:PrimOk 484 pIndexByte:=by
 intro args v e
 unfold pIndexByte at e
 split at e
 ·rename_i s c
  simp only [Option.some.injEq] at e
  subst e
  refine ⟨enters_of Tryz.func484 (by decide) rfl,prim_of (vs0:=[.string ⟨s.toArray⟩,.int .u8 c]) (v:=.int .i64 (Lib.indexByte s c.toNat.toUInt8)) (fun M w vs h=>strInt vs h) (fun _ _=>rfl) fun w _=>(Tryz.stringslite_IndexByte ⟨s.toArray⟩ c w).mono ?_⟩
  rintro e w' ⟨rfl,rfl⟩
  exact ⟨rfl,below_refl _⟩
 ·simp at e
theorem pBitsLen_ok:PrimOk 472 pBitsLen:=by
 intro args v e
 unfold pBitsLen at e
 split at e
 ·rename_i x
  split at e
  ·rename_i hf
   simp only [Bool.and_eq_true,decide_eq_true_eq] at hf
   simp only [Option.some.injEq] at e
   subst e
   refine ⟨enters_of Tryz.func472 (by decide) rfl,prim_of (vs0:=[.int .u64 x]) (v:=.int .i64 (Lib.bitLen x.toNat)) (fun M w vs h=>?_) (fun _ _=>rfl) fun w _=>(Tryz.bits_Len x w hf.1 hf.2).mono ?_⟩
   ·obtain ⟨v,vr,rfl,h1,h2⟩:=h
    have e1:v=.int .u64 x:=h1
    have e2:vr=[]:=h2
    rw [e1,e2]
   ·rintro e w' ⟨rfl,rfl⟩
    exact ⟨rfl,below_refl _⟩
  ·simp at e
 ·simp at e
theorem primH_ok:∀ f args h r h',primH f args h=some (r,h')→Enters Tryz.prog f∧Called Lay Tryz.prog f args h r h':=by
 intro f args h r h' e
 unfold primH at e
 split at e
 ·exact ⟨enters_of Tryz.func29 (by decide) rfl,copyCheck_called (ρ:=Tryz.lays155_ren) { Tryz.lays155 with } Tryz.Builder_Extra_155.toX72 e⟩
 ·exact ⟨enters_of Tryz.func21 (by decide) rfl,bString2_called (ρ:=Tryz.lays155_ren) { Tryz.lays155 with } Tryz.Builder_Extra_155 e⟩
 ·simp at e
theorem prim_ok:∀ f args v,prim f args=some v→Enters Tryz.prog f∧Called Lay Tryz.prog f args [] v []:=by
 intro f args v e
 unfold prim at e
 split at e
 ·exact pIndexByte_ok args v e
 ·exact pIndexByteL_ok args v e
 ·exact pBitsLen_ok args v e
 ·exact pTrim_ok args v e
 ·exact pContains_ok args v e
 ·exact pFormatBool_ok args v e
 ·exact pItoa_ok args v e
 ·exact pReplaceAll_ok args v e
 ·exact pHasPrefix_ok args v e
 ·exact pCut_ok args v e
 ·exact pFields_ok args v e
 ·exact pMul64_ok args v e
 ·exact pAtoi_ok args v e
 ·exact pRepeat_ok args v e
 ·exact pLower_ok args v e
 ·exact pUpper_ok args v e
 ·simp at e
end Go.Ab
namespace Go.Ab
open Go Go.Proofs
/-- Open regions: what an operation may not touch. -/
def dyn (f r:Nat):List (Nat×Nat) :=
 match f with
 | 3=>if r=19 then [(6,73),(6,4),(6,75)] else ([])
 | 18=>if r=3 then [(4,16)] else ([])
 | 21=>if r=1 then [(4,10)] else ([])
 | 25=>if r=25 then [(7,72)] else (if r=26 then [(7,80)] else ([]))
 | 30=>if r=0 then [(4,16)] else ([])
 | 35=>if r=22 then [(5,88)] else ([])
 | 41=>if r=26 then [(8,107)] else ([])
 | 47=>if r=6 then [(14,67),(14,71),(14,75),(14,76),(14,79),(15,67),(15,71)] else (if r=23 then [(9,131),(9,133)] else ([]))
 | 61=>if r=5 then [(7,38)] else (if r=6 then [(9,6),(9,53),(9,55),(16,6),(19,6)] else (if r=17 then [(8,91)] else (if r=18 then [(10,6),(10,107),(10,109),(17,6),(20,6)] else ([]))))
 | 68=>if r=4 then [(10,23),(10,25)] else ([])
 | 96=>if r=1 then [(10,13)] else ([])
 | 110=>if r=13 then [(6,60)] else ([])
 | 127=>if r=1 then [(11,16)] else ([])
 | 135=>if r=17 then [(7,88)] else ([])
 | 136=>if r=11 then [(5,51),(6,56)] else (if r=16 then [(2,74)] else ([]))
 | 138=>if r=1 then [(4,1),(4,2),(5,11)] else ([])
 | 140=>if r=21 then [(7,92)] else ([])
 | 142=>if r=8 then [(5,32),(6,37)] else ([])
 | 165=>if r=12 then [(9,67)] else ([])
 | 191=>if r=31 then [(9,155)] else ([])
 | 195=>if r=1 then [(21,31)] else (if r=2 then [(27,59)] else ([]))
 | 197=>if r=12 then [(7,3),(8,41),(8,42)] else (if r=14 then [(3,48),(3,51),(6,51)] else (if r=18 then [(7,3),(8,66),(8,67)] else (if r=23 then [(7,3),(8,81),(8,82)] else ([]))))
 | 206=>if r=9 then [(5,43),(8,46)] else (if r=11 then [(2,1),(3,56)] else (if r=18 then [(2,1),(3,82)] else ([])))
 | 208=>if r=1 then [(3,3)] else (if r=3 then [(3,12),(10,18)] else ([]))
 | 214=>if r=3 then [(1,3)] else ([])
 | 219=>if r=18 then [(7,66)] else (if r=21 then [(3,91),(3,96),(3,92)] else ([]))
 | 229=>if r=17 then [(13,94)] else ([])
 | 230=>if r=3 then [(10,18)] else ([])
 | 237=>if r=8 then [(8,38),(8,39),(8,40),(9,45)] else ([])
 | 238=>if r=4 then [(8,34),(8,6),(17,34)] else ([])
 | 243=>if r=4 then [(14,32)] else ([])
 | 244=>if r=5 then [(9,49)] else (if r=17 then [(9,101)] else (if r=35 then [(11,169)] else ([])))
 | 250=>if r=6 then [(6,31)] else ([])
 | 296=>if r=5 then [(8,26)] else ([])
 | 297=>if r=1 then [(14,28)] else ([])
 | 326=>if r=6 then [(5,45),(13,49)] else ([])
 | 389=>if r=1 then [(9,15)] else ([])
 | 401=>if r=5 then [(3,11)] else (if r=7 then [(3,20)] else (if r=9 then [(3,29)] else ([])))
 | 404=>if r=21 then [(2,6)] else (if r=25 then [(1,107)] else ([]))
 | 471=>if r=17 then [(13,94)] else ([])
 | 507=>if r=4 then [(14,32)] else ([])
 | 512=>if r=5 then [(14,33)] else (if r=16 then [(10,82)] else (if r=22 then [(10,122)] else ([])))
 | 513=>if r=3 then [(13,44)] else (if r=5 then [(13,63)] else ([]))
 | 514=>if r=3 then [(13,45)] else (if r=5 then [(13,63)] else (if r=13 then [(13,118)] else (if r=15 then [(13,136)] else ([]))))
 | 517=>if r=4 then [(14,32)] else ([])
 | 518=>if r=5 then [(9,49)] else (if r=17 then [(9,101)] else (if r=35 then [(11,169)] else ([])))
 | 539=>if r=3 then [(19,38)] else (if r=5 then [(13,56)] else ([]))
 | 557=>if r=1 then [(9,21)] else ([])
 | _=>[]
/-- Slices under making that are written, too, by type. -/
def wrE (t:Nat):Bool :=
 false
def wrB (t:Nat):Bool :=
 t==36
def wrT (t:Nat):Bool :=
 match t with
 | 22=>true
 | 28=>true
 | 54=>true
 | 77=>true
 | 78=>true
 | 81=>true
 | 91=>true
 | 152=>true
 | _=>false
/-- Slice literals whose elements keep their nil slices, by type. -/
def nlT (t:Nat):Bool :=
 match t with
 | 54=>true
 | 81=>true
 | 91=>true
 | 92=>true
 | 93=>true
 | _=>false
/-- Functions that are handed nil slices as such; functions that only read, and are handed memory as it stands (1), or memory whole (2). -/
def nlA (f:Nat):Bool×Nat :=
 match f with
 | 104=>(true,0)
 | 190=>(true,0)
 | _=>(false,0)
/-- How results are handed back. -/
def ret (f:Nat):Nat :=
 match f with
 | 34=>3
 | 61=>3
 | 62=>3
 | 79=>3
 | 81=>3
 | 104=>2
 | 141=>3
 | 142=>3
 | 190=>3
 | 229=>3
 | 322=>3
 | 454=>3
 | _=>0
/-- Loops: the slots that live from round to round; slices that the loop makes; slices that nothing writes any more. -/
def live (f b:Nat):Option (List Nat×List (Nat×Option Nat×Nat×Bool)×List Nat) :=
 match f with
 | 3=>match b with
  | 1=>some ([5,6,30,31],[],[])
  | 3=>some ([4,5,6,49,50],[],[])
  | _=>none
 | 9=>match b with
  | 0=>some ([7,8],[],[])
  | _=>none
 | 10=>match b with
  | 0=>some ([7,8],[],[])
  | _=>none
 | 24=>match b with
  | 1=>some ([2,3,30,31,32],[],[])
  | _=>none
 | 25=>match b with
  | 0=>some ([2,3,26,27,28],[],[])
  | _=>none
 | 35=>match b with
  | 0=>some ([3,4,8,9,10,44,45,46],[(10,none,13,true)],[])
  | 2=>some ([3,4,10,13,14,61,62,63],[(13,none,2,false)],[])
  | 4=>some ([19,115,116,117],[(19,none,1,true)],[])
  | _=>none
 | 39=>match b with
  | 0=>some ([0,4,9,14,15,69,70,71],[],[])
  | 2=>some ([0,4,9,15,19,20,92,93,94],[(20,none,3,false)],[])
  | 5=>some ([0,4,9,15,19,20,137,138,139],[],[])
  | _=>none
 | 40=>match b with
  | 0=>some ([1,2,8,9],[],[])
  | _=>none
 | 41=>match b with
  | 0=>some ([0,1,5,46,47,48],[],[])
  | 2=>some ([0,1,5,69,70,71],[],[])
  | 5=>some ([0,1,5,69,70,71,92,93,94],[],[])
  | _=>none
 | 43=>match b with
  | 0=>some ([1,19,20,21],[],[])
  | 2=>some ([1,49,50,51],[],[])
  | 4=>some ([1,8,49,50,51,56,57,58],[],[])
  | 6=>some ([1,8,10,11,49,50,51,56,57,58,84,85,86],[],[])
  | _=>none
 | 44=>match b with
  | 0=>some ([1,3,15,16,17],[],[])
  | 2=>some ([1,3,26,27,28],[],[])
  | 4=>some ([1,3,26,27,28,32,33,34],[],[])
  | 6=>some ([1,3,48,49,50],[],[])
  | _=>none
 | 47=>match b with
  | 0=>some ([0,3,6,90,91,92],[],[])
  | 2=>some ([0,3,6,104,105,106],[],[])
  | 4=>some ([0,3,15,148,149,150],[],[])
  | _=>none
 | 49=>match b with
  | 0=>some ([0,4,5,48,49,50],[],[])
  | 2=>some ([0,4,5,71,72,73],[],[])
  | 4=>some ([0,4,5,71,72,73,92,93,94],[],[])
  | _=>none
 | 50=>match b with
  | 0=>some ([0,4,5,7,25,26,27],[],[])
  | 2=>some ([0,91,92,93],[],[])
  | _=>none
 | 56=>match b with
  | 0=>some ([2,3,7,38,39,40],[],[])
  | 2=>some ([2,3,7,8,9,38,39,40,54,55,56],[],[])
  | _=>none
 | 57=>match b with
  | 0=>some ([2,14,15,16],[],[])
  | _=>none
 | 59=>match b with
  | 0=>some ([1,8,9,10],[],[])
  | _=>none
 | 61=>match b with
  | 0=>some ([3,4,5,6,9,24,25,26],[(9,none,1,true)],[])
  | 2=>some ([3,4,5,6,9,24,25,26,62,63,64],[(9,none,1,true)],[])
  | 4=>some ([3,4,5,6,9,76,77,78],[],[])
  | 6=>some ([4,6,9,125,126,127],[],[])
  | _=>none
 | 62=>match b with
  | 0=>some ([2,9,10,23,24,25],[(9,none,1,false)],[])
  | 2=>some ([0,2,5,9,51,52,53],[(9,none,1,false)],[])
  | _=>none
 | 63=>match b with
  | 0=>some ([0,2,7,13,14,15],[],[])
  | _=>none
 | 64=>match b with
  | 0=>some ([3,8,9,10],[(3,none,1,false)],[])
  | 3=>some ([3,6,7,8,9,10],[(3,none,1,false)],[])
  | _=>none
 | 65=>match b with
  | 0=>some ([3,6,7,8],[(3,none,13,true)],[])
  | _=>none
 | 68=>match b with
  | 0=>some ([1,2,12,13,14],[],[])
  | _=>none
 | 69=>match b with
  | 0=>some ([0,1,11,12],[],[])
  | _=>none
 | 70=>match b with
  | 0=>some ([6,7,8],[],[])
  | _=>none
 | 72=>match b with
  | 0=>some ([1,7,8],[],[])
  | _=>none
 | 79=>match b with
  | 0=>some ([1,3,13,14,15],[],[])
  | _=>none
 | 81=>match b with
  | 0=>some ([0,2,4,17,18,19],[],[])
  | 2=>some ([0,2,45,46,47],[],[])
  | _=>none
 | 82=>match b with
  | 0=>some ([0,2,7,13,14,15],[],[])
  | _=>none
 | 83=>match b with
  | 0=>some ([0,2,7,10,15,16,17],[(10,none,1,true)],[])
  | _=>none
 | 86=>match b with
  | 0=>some ([2,3,5,14,15,16],[],[])
  | 2=>some ([3,5,29,30,31],[],[])
  | _=>none
 | 90=>match b with
  | 0=>some ([0,2,5,7,10,11,53,54,55],[],[])
  | 2=>some ([0,2,5,7,11,19,73,74,75],[(19,none,1,false)],[])
  | _=>none
 | 94=>match b with
  | 0=>some ([0,1,7,8,9],[],[])
  | _=>none
 | 95=>match b with
  | 0=>some ([0,1,2,4,15,16,17],[],[])
  | _=>none
 | 97=>match b with
  | 0=>some ([0,4,5,13,14,15],[],[])
  | _=>none
 | 99=>match b with
  | 0=>some ([1,41,42,43],[],[])
  | 3=>some ([1,77,78,79],[],[])
  | 6=>some ([1,106,107,108],[],[])
  | 8=>some ([1,138,139,140],[],[])
  | _=>none
 | 101=>match b with
  | 0=>some ([0,2,4,43,44,45],[],[])
  | 2=>some ([0,2,4,56,57,58],[],[])
  | 4=>some ([0,2,4,82,83,84],[],[])
  | 6=>some ([0,2,4,95,96,97],[],[])
  | 8=>some ([0,2,113,114,115],[],[])
  | _=>none
 | 102=>match b with
  | 0=>some ([0,2,4,20,21,22],[],[])
  | 2=>some ([0,2,4,33,34,35],[],[])
  | 4=>some ([0,2,51,52,53],[],[])
  | _=>none
 | 103=>match b with
  | 0=>some ([0,3,9,10,11],[],[])
  | 2=>some ([6,25,26,27],[(6,none,13,true)],[])
  | _=>none
 | 105=>match b with
  | 0=>some ([0,3,13,14,15],[],[])
  | 2=>some ([0,27,28,29],[],[])
  | _=>none
 | 109=>match b with
  | 0=>some ([1,3,10,11,12],[],[])
  | _=>none
 | 110=>match b with
  | 0=>some ([0,2,4,8,9,23,24,25],[(8,none,2,false),(9,none,1,false)],[])
  | 2=>some ([0,2,4,8,9,67,68,69],[],[])
  | 4=>some ([4,8,9,87,88,89],[],[])
  | _=>none
 | 111=>match b with
  | 0=>some ([0,1,7,8],[],[])
  | _=>none
 | 113=>match b with
  | 0=>some ([1,2,7,8,9],[],[])
  | _=>none
 | 114=>match b with
  | 0=>some ([0,2,5,15,16,17],[],[])
  | _=>none
 | 115=>match b with
  | 0=>some ([4,7,8,9],[],[])
  | _=>none
 | 124=>match b with
  | 0=>some ([1,2,3],[],[])
  | _=>none
 | 125=>match b with
  | 0=>some ([1,2,15,16,17],[],[])
  | _=>none
 | 129=>match b with
  | 0=>some ([2,3,7,8,12,13,14],[(8,none,3,false)],[])
  | _=>none
 | 135=>match b with
  | 0=>some ([0,2,5,10,24,25,26],[(10,none,1,false)],[])
  | 2=>some ([0,3,5,10,53,54,55],[(10,none,1,false)],[])
  | _=>none
 | 136=>match b with
  | 0=>some ([0,1,4,9,13,14,28,29,30],[(14,none,1,true)],[])
  | 2=>some ([0,1,4,9,13,14,16,17,28,29,30,39,40,41],[(14,none,1,true)],[])
  | _=>none
 | 137=>match b with
  | 0=>some ([0,1,5,6],[],[])
  | _=>none
 | 140=>match b with
  | 2=>some ([0,2,6,10,113,114,115],[(10,none,3,true)],[])
  | 4=>some ([0,2,6,10,113,114,115,122,123,124],[(10,none,3,true)],[])
  | _=>none
 | 142=>match b with
  | 0=>some ([0,2,5,9,10,25,26,27],[(9,none,1,false)],[])
  | _=>none
 | 144=>match b with
  | 0=>some ([0,1,2,6,7,8],[],[])
  | 2=>some ([0,1,2,6],[],[])
  | 4=>some ([0,1,2,6,7,8],[],[])
  | _=>none
 | 163=>match b with
  | 0=>some ([0,2,14,15,16],[],[])
  | 2=>some ([0,2,7,14,15,16,48,49,50],[],[])
  | 4=>some ([0,2,7,14,15,16,66,67,68],[],[])
  | 6=>some ([0,2,7,14,15,16,79,80,81],[],[])
  | _=>none
 | 164=>match b with
  | 0=>some ([0,2,8,9,10],[],[])
  | _=>none
 | 173=>match b with
  | 0=>some ([0,5,6],[],[])
  | _=>none
 | 174=>match b with
  | 0=>some ([0,1,7,8],[],[])
  | _=>none
 | 179=>match b with
  | 0=>some ([0,1,7,8],[],[])
  | _=>none
 | 186=>match b with
  | 0=>some ([0,1,7,8],[],[])
  | _=>none
 | 189=>match b with
  | 0=>some ([0,2,12,13,14],[],[])
  | _=>none
 | 191=>match b with
  | 0=>some ([0,3,24,25,26],[],[])
  | 3=>some ([3,7,8,73,74,75],[(8,none,3,false)],[])
  | 5=>some ([3,7,8,126,127,128],[(8,none,3,false)],[])
  | _=>none
 | 194=>match b with
  | 0=>some ([0,3,18,19,20],[],[])
  | _=>none
 | 195=>match b with
  | 0=>some ([0,3,64,65,66],[],[])
  | 2=>some ([0,3,64,65,66,76,77,78],[],[])
  | 4=>some ([0,92,93,94],[],[])
  | _=>none
 | 197=>match b with
  | 0=>some ([1,3,4,15,16,17],[],[])
  | 2=>some ([1,3,4,26,27,28],[],[])
  | 4=>some ([1,3,55,56,57],[],[])
  | 6=>some ([3,70,71,72],[],[])
  | _=>none
 | 202=>match b with
  | 0=>some ([0,1,2,7],[(7,none,1,false)],[])
  | _=>none
 | 203=>match b with
  | 0=>some ([0,1,5],[(5,none,1,false)],[])
  | _=>none
 | 205=>match b with
  | 0=>some ([0,1,2,7],[(7,none,13,true)],[])
  | _=>none
 | 207=>match b with
  | 0=>some ([0,1,5],[(5,none,1,false)],[])
  | _=>none
 | 210=>match b with
  | 0=>some ([0,3],[],[])
  | _=>none
 | 213=>match b with
  | 0=>some ([0,1,5],[(5,none,14,false)],[])
  | _=>none
 | 216=>match b with
  | 0=>some ([0,1,5],[(5,none,13,true)],[])
  | _=>none
 | 217=>match b with
  | 0=>some ([0,1,5],[(5,none,15,false)],[])
  | _=>none
 | 228=>match b with
  | 1=>some ([1,23,24],[],[])
  | _=>none
 | 229=>match b with
  | 0=>some ([1,2,4,9,23,24,25],[],[])
  | 2=>some ([1,2,4,9,11,23,24,25,38,39,40],[],[])
  | 4=>some ([9,15,79,80,81],[],[])
  | _=>none
 | 232=>match b with
  | 0=>some ([0,1,7,8],[],[])
  | _=>none
 | 234=>match b with
  | 0=>some ([0,3,4],[],[])
  | 2=>some ([0,3,4,25,26,27],[],[])
  | _=>none
 | 235=>match b with
  | 0=>some ([0,1,2,6],[],[])
  | 2=>some ([0,1,2,6,19,20,21],[],[])
  | _=>none
 | 237=>match b with
  | 0=>some ([0,2,4,6,7,30,31,32],[(7,none,3,true)],[])
  | _=>none
 | 239=>match b with
  | 1=>some ([6,229,230,231],[],[])
  | _=>none
 | 240=>match b with
  | 0=>some ([0,2,3],[],[])
  | _=>none
 | 241=>match b with
  | 0=>some ([2,4,5,9,10,11],[],[])
  | _=>none
 | 243=>match b with
  | 0=>some ([0,1,2,3,8],[],[])
  | 2=>some ([0,1,2,3,8,9],[],[])
  | _=>none
 | 244=>match b with
  | 0=>some ([0,1,4,10,11],[],[])
  | 2=>some ([0,10,13],[],[])
  | 4=>some ([0,2,4,14,15],[],[])
  | 6=>some ([0,14,17],[],[])
  | 8=>some ([0,1,2,3,4,18,19,20,21,22],[],[])
  | _=>none
 | 255=>match b with
  | 0=>some ([0,2,8,9,10],[],[])
  | _=>none
 | 256=>match b with
  | 0=>some ([0,3],[],[])
  | _=>none
 | 258=>match b with
  | 0=>some ([0,1,7,8],[],[])
  | _=>none
 | 259=>match b with
  | 0=>some ([0,1,7,8],[],[])
  | _=>none
 | 271=>match b with
  | 0=>some ([0,1,2,6],[],[])
  | 2=>some ([0,1,2,6,21,22,23],[],[])
  | 4=>some ([0,1,2,6,21,22,23,32,33,34],[],[])
  | _=>none
 | 283=>match b with
  | 0=>some ([0,1,7,8],[],[])
  | _=>none
 | 289=>match b with
  | 0=>some ([0,3,9,59,60,61],[(9,none,1,true)],[])
  | 2=>some ([0,3,9,80,81,82],[],[])
  | 4=>some ([0,3,9,97,98,99],[],[])
  | 6=>some ([0,9,22,115,116,117],[],[])
  | _=>none
 | 291=>match b with
  | 0=>some ([0,2,4,9,10],[(9,none,3,false)],[])
  | _=>none
 | 296=>match b with
  | 0=>some ([0,8,9,10],[],[])
  | _=>none
 | 297=>match b with
  | 0=>some ([0,3,30,31,32],[],[])
  | 2=>some ([0,3,47,48,49],[],[])
  | 4=>some ([0,3,58,59,60],[],[])
  | 6=>some ([0,3,85,86,87],[],[])
  | 8=>some ([0,3,85,86,87,97,98,99],[],[])
  | _=>none
 | 298=>match b with
  | 0=>some ([1,6,7,8],[],[])
  | _=>none
 | 308=>match b with
  | 0=>some ([0,2,3],[],[])
  | _=>none
 | 311=>match b with
  | 0=>some ([0,3],[],[])
  | _=>none
 | 322=>match b with
  | 0=>some ([0],[],[])
  | _=>none
 | 326=>match b with
  | 0=>some ([1,3,6,9,26,27,28],[],[])
  | 2=>some ([6,9,14,15],[],[])
  | 4=>some ([6,9,14,15,16],[],[])
  | _=>none
 | 345=>match b with
  | 0=>some ([4,5,6],[],[])
  | _=>none
 | 348=>match b with
  | 0=>some ([0,2,4,10,11],[],[])
  | _=>none
 | 349=>match b with
  | 0=>some ([3,6,7,8],[],[])
  | _=>none
 | 351=>match b with
  | 0=>some ([0,1,8,9],[],[])
  | _=>none
 | 355=>match b with
  | 0=>some ([0,1,7,8],[],[])
  | _=>none
 | 368=>match b with
  | 0=>some ([4,7,8,9],[],[])
  | _=>none
 | 369=>match b with
  | 0=>some ([1,2,15,16,17],[],[])
  | _=>none
 | 370=>match b with
  | 0=>some ([1,2,15,16,17],[],[])
  | _=>none
 | 377=>match b with
  | 0=>some ([1,2,15,16,17],[],[])
  | _=>none
 | 378=>match b with
  | 0=>some ([6,7,8],[],[])
  | _=>none
 | 389=>match b with
  | 0=>some ([0,17,18,19],[],[])
  | _=>none
 | 399=>match b with
  | 0=>some ([0,3],[],[])
  | _=>none
 | 401=>match b with
  | 0=>some ([0,2,3],[],[])
  | _=>none
 | 405=>match b with
  | 0=>some ([0,6,7,8],[],[])
  | _=>none
 | 407=>match b with
  | 0=>some ([0,1,5,6],[],[])
  | _=>none
 | 410=>match b with
  | 0=>some ([0,3],[],[])
  | 2=>some ([0,3,4,5],[],[])
  | _=>none
 | 411=>match b with
  | 0=>some ([2,3,7,8,9],[],[])
  | _=>none
 | 412=>match b with
  | 0=>some ([0,3,9,10,11],[],[])
  | 2=>some ([6,25,26,27],[(6,none,3,true)],[])
  | _=>none
 | 415=>match b with
  | 0=>some ([1,2,3,6,7,8],[],[])
  | 2=>some ([1,2,3,6,7,8,9],[],[])
  | 4=>some ([1,2,3,6,7,8,9,10],[],[])
  | _=>none
 | 417=>match b with
  | 0=>some ([5,6,7],[],[])
  | _=>none
 | 420=>match b with
  | 0=>some ([5,6,7],[],[])
  | _=>none
 | 422=>match b with
  | 0=>some ([0,1,5],[],[5])
  | 2=>some ([0,1,5,6,34,35],[],[])
  | 4=>some ([0,1,5,6,7,8,70,71],[],[])
  | _=>none
 | 426=>match b with
  | 0=>some ([2,3,4,5],[],[])
  | 2=>some ([2,3,4,5,6],[],[])
  | _=>none
 | 427=>match b with
  | 0=>some ([0,1,3,4,5,12,13,14],[],[])
  | _=>none
 | 431=>match b with
  | 0=>some ([0,1,2,3,10],[],[])
  | _=>none
 | 434=>match b with
  | 0=>some ([0,1,7,8],[],[])
  | _=>none
 | 435=>match b with
  | 0=>some ([0,1,7,8],[],[])
  | _=>none
 | 438=>match b with
  | 0=>some ([0,7,8,9],[],[])
  | _=>none
 | 440=>match b with
  | 0=>some ([1,2,15,16,17],[],[])
  | _=>none
 | 441=>match b with
  | 0=>some ([1,2,15,16,17],[],[])
  | _=>none
 | 442=>match b with
  | 0=>some ([1,2,15,16,17],[],[])
  | _=>none
 | 450=>match b with
  | 0=>some ([0,2,11,12,13],[],[])
  | _=>none
 | 451=>match b with
  | 0=>some ([0,1,2,8,9,10,17,18,19],[],[])
  | 2=>some ([0,1,2,8,9,10,12,17,18,19,25,26,27],[],[])
  | _=>none
 | 454=>match b with
  | 0=>some ([0,1,2,3,4],[(0,none,1,false)],[])
  | _=>none
 | 470=>match b with
  | 0=>some ([0,1,7,8],[],[])
  | _=>none
 | 471=>match b with
  | 0=>some ([0,1,2,3,4,10,11],[],[])
  | _=>none
 | 476=>match b with
  | 0=>some ([0,1,2,6,7,8],[],[])
  | 2=>some ([0,1,2,6],[],[])
  | 4=>some ([0,1,2,6,7,8],[],[])
  | _=>none
 | 483=>match b with
  | 0=>some ([0,2,3,14,15],[],[])
  | _=>none
 | 489=>match b with
  | 0=>some ([0,1,7,8],[],[])
  | _=>none
 | 507=>match b with
  | 0=>some ([0,1,2,3,8],[],[])
  | 2=>some ([0,1,2,3,8,9],[],[])
  | _=>none
 | 508=>match b with
  | 0=>some ([0,3,8,9,10,11],[],[])
  | 2=>some ([0,3,8,9,12],[],[])
  | _=>none
 | 509=>match b with
  | 0=>some ([0,1,8,9,10,11],[],[])
  | _=>none
 | 511=>match b with
  | 0=>some ([0,8,9],[],[])
  | _=>none
 | 512=>match b with
  | 0=>some ([0,1,2,3,9,10],[],[])
  | 2=>some ([0,1,2,3,9,10],[],[])
  | 4=>some ([0,1,2,3,9,10,11],[],[])
  | 6=>some ([0,1,2,3,9,10,12],[],[])
  | _=>none
 | 513=>match b with
  | 0=>some ([0,1,4,11,12],[],[])
  | 2=>some ([0,1,4,11,12],[],[])
  | 4=>some ([0,1,4,11,12],[],[])
  | _=>none
 | 514=>match b with
  | 0=>some ([0,1,4,12,13],[],[])
  | 2=>some ([0,1,4,12,13],[],[])
  | 4=>some ([0,1,4,12,13],[],[])
  | 6=>some ([0,1,4,12,13],[],[])
  | 8=>some ([0,1,4,12,13],[],[])
  | _=>none
 | 517=>match b with
  | 0=>some ([0,1,2,3,8],[],[])
  | 2=>some ([0,1,2,3,8,9],[],[])
  | _=>none
 | 518=>match b with
  | 0=>some ([0,1,4,10,11],[],[])
  | 2=>some ([0,10,13],[],[])
  | 4=>some ([0,2,4,14,15],[],[])
  | 6=>some ([0,14,17],[],[])
  | 8=>some ([0,1,2,3,4,18,19,20,21,22],[],[])
  | _=>none
 | 527=>match b with
  | 1=>some ([0,1,5,6,7,8,9,10],[],[])
  | _=>none
 | 539=>match b with
  | 0=>some ([0,2,3,4,10],[],[])
  | _=>none
 | 544=>match b with
  | 0=>some ([0,2,4,10,11],[],[])
  | _=>none
 | 558=>match b with
  | 0=>some ([0,1,2,3,10],[],[])
  | _=>none
 | _=>none
/-- Behind loops: the slots that live on. -/
def out (f b:Nat):Option (List Nat) :=
 match f with
 | 3=>match b with
  | 1=>some [5,6]
  | 3=>some [5,6]
  | _=>none
 | 9=>match b with
  | 0=>some [7]
  | _=>none
 | 10=>match b with
  | 0=>some [7]
  | _=>none
 | 24=>match b with
  | 1=>some [2,3]
  | _=>none
 | 25=>match b with
  | 0=>some [2,3]
  | _=>none
 | 35=>match b with
  | 0=>some [3,4,8,9,10]
  | 2=>some [4,13]
  | 4=>some [19]
  | _=>none
 | 39=>match b with
  | 0=>some [0,4,9,14,15]
  | 2=>some [0,4,9,15,19,20]
  | 5=>some [4,20]
  | _=>none
 | 40=>match b with
  | 0=>some []
  | _=>none
 | 41=>match b with
  | 0=>some [0,1,5]
  | 2=>some []
  | 5=>some [0,1,5,69,70,71]
  | _=>none
 | 43=>match b with
  | 0=>some [1]
  | 2=>some []
  | 4=>some [1,49,50,51]
  | 6=>some [1,8,49,50,51,56,57,58]
  | _=>none
 | 44=>match b with
  | 0=>some [1,3]
  | 2=>some [1,3]
  | 4=>some [1,3,26,27,28]
  | 6=>some [1,3]
  | _=>none
 | 47=>match b with
  | 0=>some [0,3,6]
  | 2=>some [0,3,6]
  | 4=>some [0,3,15]
  | _=>none
 | 49=>match b with
  | 0=>some [0,4,5]
  | 2=>some []
  | 4=>some [0,4,5,71,72,73]
  | _=>none
 | 50=>match b with
  | 0=>some [0,4,5,7]
  | 2=>some []
  | _=>none
 | 56=>match b with
  | 0=>some [2,3,7]
  | 2=>some [2,3,7,38,39,40]
  | _=>none
 | 57=>match b with
  | 0=>some []
  | _=>none
 | 59=>match b with
  | 0=>some []
  | _=>none
 | 61=>match b with
  | 0=>some [3,4,5,6,9]
  | 2=>some [3,4,5,6,9,24,25,26]
  | 4=>some [4,5,6,9]
  | 6=>some [9]
  | _=>none
 | 62=>match b with
  | 0=>some [9]
  | 2=>some [9]
  | _=>none
 | 63=>match b with
  | 0=>some [7]
  | _=>none
 | 64=>match b with
  | 0=>some [3]
  | 3=>some [3,8,9,10]
  | _=>none
 | 65=>match b with
  | 0=>some [3]
  | _=>none
 | 68=>match b with
  | 0=>some []
  | _=>none
 | 69=>match b with
  | 0=>some [0,1]
  | _=>none
 | 70=>match b with
  | 0=>some []
  | _=>none
 | 72=>match b with
  | 0=>some []
  | _=>none
 | 79=>match b with
  | 0=>some [1,3]
  | _=>none
 | 81=>match b with
  | 0=>some [0,2,4]
  | 2=>some []
  | _=>none
 | 82=>match b with
  | 0=>some []
  | _=>none
 | 83=>match b with
  | 0=>some [10]
  | _=>none
 | 86=>match b with
  | 0=>some [2,3,5]
  | 2=>some [3,5]
  | _=>none
 | 90=>match b with
  | 0=>some [0,2,5,7,11]
  | 2=>some [0,2,5,7,11,19]
  | _=>none
 | 94=>match b with
  | 0=>some []
  | _=>none
 | 95=>match b with
  | 0=>some []
  | _=>none
 | 97=>match b with
  | 0=>some [4,5]
  | _=>none
 | 99=>match b with
  | 0=>some [1]
  | 3=>some [1]
  | 6=>some [1]
  | 8=>some []
  | _=>none
 | 101=>match b with
  | 0=>some [0,2,4]
  | 2=>some [0,2,4]
  | 4=>some [0,2,4]
  | 6=>some [0,2,4]
  | 8=>some []
  | _=>none
 | 102=>match b with
  | 0=>some [0,2,4]
  | 2=>some [0,2,4]
  | 4=>some []
  | _=>none
 | 103=>match b with
  | 0=>some [0,3]
  | 2=>some [6]
  | _=>none
 | 105=>match b with
  | 0=>some [0,3]
  | 2=>some []
  | _=>none
 | 109=>match b with
  | 0=>some [1,3]
  | _=>none
 | 110=>match b with
  | 0=>some [0,2,4,8,9]
  | 2=>some [4,8,9]
  | 4=>some [8]
  | _=>none
 | 111=>match b with
  | 0=>some []
  | _=>none
 | 113=>match b with
  | 0=>some []
  | _=>none
 | 114=>match b with
  | 0=>some []
  | _=>none
 | 115=>match b with
  | 0=>some [4]
  | _=>none
 | 124=>match b with
  | 0=>some [1,2,3]
  | _=>none
 | 125=>match b with
  | 0=>some []
  | _=>none
 | 129=>match b with
  | 0=>some [7,8]
  | _=>none
 | 135=>match b with
  | 0=>some [0,2,5,10]
  | 2=>some [0,3,5,10]
  | _=>none
 | 136=>match b with
  | 0=>some [14]
  | 2=>some [0,1,4,9,13,14,16,17,28,29,30]
  | _=>none
 | 137=>match b with
  | 0=>some [0,5]
  | _=>none
 | 140=>match b with
  | 2=>some [6,10]
  | 4=>some [0,2,6,10,113,114,115]
  | _=>none
 | 142=>match b with
  | 0=>some [9]
  | _=>none
 | 144=>match b with
  | 0=>some [0,1,2,6,7]
  | 2=>some []
  | 4=>some [0,1,2,6,7]
  | _=>none
 | 163=>match b with
  | 0=>some []
  | 2=>some [0,2,7,14,15,16]
  | 4=>some [0,2,7,14,15,16]
  | 6=>some [0,2,7,14,15,16]
  | _=>none
 | 164=>match b with
  | 0=>some []
  | _=>none
 | 173=>match b with
  | 0=>some []
  | _=>none
 | 174=>match b with
  | 0=>some []
  | _=>none
 | 179=>match b with
  | 0=>some []
  | _=>none
 | 186=>match b with
  | 0=>some []
  | _=>none
 | 189=>match b with
  | 0=>some []
  | _=>none
 | 191=>match b with
  | 0=>some [0,3]
  | 3=>some [3,7,8]
  | 5=>some [3,7,8]
  | _=>none
 | 194=>match b with
  | 0=>some [0,3]
  | _=>none
 | 195=>match b with
  | 0=>some [0,3]
  | 2=>some [0,3,64,65,66]
  | 4=>some [0]
  | _=>none
 | 197=>match b with
  | 0=>some [1,3,4]
  | 2=>some [1,3]
  | 4=>some [1,3]
  | 6=>some [3]
  | _=>none
 | 202=>match b with
  | 0=>some [6]
  | _=>none
 | 203=>match b with
  | 0=>some [5]
  | _=>none
 | 205=>match b with
  | 0=>some [6]
  | _=>none
 | 207=>match b with
  | 0=>some [5]
  | _=>none
 | 210=>match b with
  | 0=>some [0,3]
  | _=>none
 | 213=>match b with
  | 0=>some [5]
  | _=>none
 | 216=>match b with
  | 0=>some [5]
  | _=>none
 | 217=>match b with
  | 0=>some [5]
  | _=>none
 | 228=>match b with
  | 1=>some []
  | _=>none
 | 229=>match b with
  | 0=>some [9]
  | 2=>some [1,2,4,9,23,24,25]
  | 4=>some [9]
  | _=>none
 | 232=>match b with
  | 0=>some []
  | _=>none
 | 234=>match b with
  | 0=>some [4]
  | 2=>some [0,3,4]
  | _=>none
 | 235=>match b with
  | 0=>some [6]
  | 2=>some [0,1,2,6]
  | _=>none
 | 237=>match b with
  | 0=>some [4,6,7]
  | _=>none
 | 239=>match b with
  | 1=>some [6]
  | _=>none
 | 240=>match b with
  | 0=>some [0,2]
  | _=>none
 | 241=>match b with
  | 0=>some [4,5]
  | _=>none
 | 243=>match b with
  | 0=>some []
  | 2=>some [0,1,2,3,8]
  | _=>none
 | 244=>match b with
  | 0=>some [0,1,10]
  | 2=>some []
  | 4=>some [0,2,14]
  | 6=>some []
  | 8=>some [0,1,2,3,4,18,19,20]
  | _=>none
 | 255=>match b with
  | 0=>some []
  | _=>none
 | 256=>match b with
  | 0=>some []
  | _=>none
 | 258=>match b with
  | 0=>some []
  | _=>none
 | 259=>match b with
  | 0=>some []
  | _=>none
 | 271=>match b with
  | 0=>some [6]
  | 2=>some [0,1,2,6]
  | 4=>some [0,1,2,6,21,22,23]
  | _=>none
 | 283=>match b with
  | 0=>some []
  | _=>none
 | 289=>match b with
  | 0=>some [0,3,9]
  | 2=>some [0,3,9]
  | 4=>some [0,3,9]
  | 6=>some [9,22]
  | _=>none
 | 291=>match b with
  | 0=>some [0,2,4,9]
  | _=>none
 | 296=>match b with
  | 0=>some []
  | _=>none
 | 297=>match b with
  | 0=>some [0,3]
  | 2=>some [0,3]
  | 4=>some [0,3]
  | 6=>some [0,3]
  | 8=>some [0,3,85,86,87]
  | _=>none
 | 298=>match b with
  | 0=>some []
  | _=>none
 | 308=>match b with
  | 0=>some [2]
  | _=>none
 | 311=>match b with
  | 0=>some [0,3]
  | _=>none
 | 322=>match b with
  | 0=>some [0]
  | _=>none
 | 326=>match b with
  | 0=>some [6,9]
  | 2=>some [14]
  | 4=>some [6,9,14,15,16]
  | _=>none
 | 345=>match b with
  | 0=>some [4,5]
  | _=>none
 | 348=>match b with
  | 0=>some [0,2,4,10]
  | _=>none
 | 349=>match b with
  | 0=>some [3]
  | _=>none
 | 351=>match b with
  | 0=>some [0]
  | _=>none
 | 355=>match b with
  | 0=>some []
  | _=>none
 | 368=>match b with
  | 0=>some [4]
  | _=>none
 | 369=>match b with
  | 0=>some []
  | _=>none
 | 370=>match b with
  | 0=>some []
  | _=>none
 | 377=>match b with
  | 0=>some []
  | _=>none
 | 378=>match b with
  | 0=>some []
  | _=>none
 | 389=>match b with
  | 0=>some [0]
  | _=>none
 | 399=>match b with
  | 0=>some []
  | _=>none
 | 401=>match b with
  | 0=>some [0,2,3]
  | _=>none
 | 405=>match b with
  | 0=>some []
  | _=>none
 | 407=>match b with
  | 0=>some [0,5]
  | _=>none
 | 410=>match b with
  | 0=>some [0]
  | 2=>some [0,3]
  | _=>none
 | 411=>match b with
  | 0=>some [2,3]
  | _=>none
 | 412=>match b with
  | 0=>some [0,3]
  | 2=>some [6]
  | _=>none
 | 415=>match b with
  | 0=>some []
  | 2=>some [1,2,3,6,7,8,9]
  | 4=>some [1,2,3,6,7,9]
  | _=>none
 | 417=>match b with
  | 0=>some []
  | _=>none
 | 420=>match b with
  | 0=>some []
  | _=>none
 | 422=>match b with
  | 0=>some [0,5]
  | 2=>some [0,1,6]
  | 4=>some [0,1,6]
  | _=>none
 | 426=>match b with
  | 0=>some [2,3,4,5]
  | 2=>some [2,3,4,5,6]
  | _=>none
 | 427=>match b with
  | 0=>some [3,4,5,12,13]
  | _=>none
 | 431=>match b with
  | 0=>some []
  | _=>none
 | 434=>match b with
  | 0=>some []
  | _=>none
 | 435=>match b with
  | 0=>some []
  | _=>none
 | 438=>match b with
  | 0=>some []
  | _=>none
 | 440=>match b with
  | 0=>some []
  | _=>none
 | 441=>match b with
  | 0=>some []
  | _=>none
 | 442=>match b with
  | 0=>some []
  | _=>none
 | 450=>match b with
  | 0=>some [0]
  | _=>none
 | 451=>match b with
  | 0=>some [0,1,2,9,10]
  | 2=>some [0,1,2,8,9,10,17,18,19]
  | _=>none
 | 454=>match b with
  | 0=>some [0,2]
  | _=>none
 | 470=>match b with
  | 0=>some []
  | _=>none
 | 471=>match b with
  | 0=>some []
  | _=>none
 | 476=>match b with
  | 0=>some [0,1,2,6,7]
  | 2=>some []
  | 4=>some [0,1,2,6,7]
  | _=>none
 | 483=>match b with
  | 0=>some [0,2,3]
  | _=>none
 | 489=>match b with
  | 0=>some []
  | _=>none
 | 507=>match b with
  | 0=>some []
  | 2=>some [0,1,2,3,8]
  | _=>none
 | 508=>match b with
  | 0=>some [0,3,8,9,10]
  | 2=>some []
  | _=>none
 | 509=>match b with
  | 0=>some []
  | _=>none
 | 511=>match b with
  | 0=>some []
  | _=>none
 | 512=>match b with
  | 0=>some []
  | 2=>some [0,1,2,3,9,10]
  | 4=>some [0,1,2,3,9,10]
  | 6=>some [0,1,2,3,9,10]
  | _=>none
 | 513=>match b with
  | 0=>some [11]
  | 2=>some [0,1,4,11,12]
  | 4=>some [0,1,4,11,12]
  | _=>none
 | 514=>match b with
  | 0=>some [0,1,4,12,13]
  | 2=>some [0,1,4,12,13]
  | 4=>some [0,1,13]
  | 6=>some [0,1,4,12,13]
  | 8=>some [0,1,4,12,13]
  | _=>none
 | 517=>match b with
  | 0=>some []
  | 2=>some [0,1,2,3,8]
  | _=>none
 | 518=>match b with
  | 0=>some [0,1,10]
  | 2=>some []
  | 4=>some [0,2,14]
  | 6=>some []
  | 8=>some [0,1,2,3,4,18,19,20]
  | _=>none
 | 527=>match b with
  | 1=>some []
  | _=>none
 | 539=>match b with
  | 0=>some []
  | _=>none
 | 544=>match b with
  | 0=>some [0,2,4,10]
  | _=>none
 | 558=>match b with
  | 0=>some []
  | _=>none
 | _=>none
/-- Behind regions: the slots that live on, and what is done with slices. -/
def post (f:Nat):List (Nat×List Nat×List Pop) :=
 match f with
 | 3=>[(6,[5,6],[.cell 5 1]),(9,[5,6,30,31,32],[.whenF 32,.cell 5 1]),(14,[4,5,6,49,50,51],[.whenF 51,.cell 5 1]),(19,[5,6],[.cell 5 1])]
 | _=>[]
/-- The functions whose code is checked. -/
def goods:List Nat:=[3,4,5,6,7,9,10,11,12,13,14,15,16,19,20,22,23,24,25,28,31,32,33,34,35,36,37,38,39,40,41,42,43,44,45,46,47,48,49,50,53,54,55,56,57,58,59,60,61,62,63,64,65,66,67,68,69,70,71,72,73,74,75,76,77,78,79,80,81,82,83,84,85,86,87,88,89,90,91,92,93,94,95,96,97,98,99,100,101,102,103,104,105,106,107,108,109,110,111,112,113,114,115,116,117,118,119,120,121,122,123,124,125,126,127,128,129,130,131,132,133,134,135,136,137,138,139,140,141,142,143,144,145,146,147,148,149,150,151,152,153,154,155,156,157,158,159,160,161,162,163,164,165,166,167,168,169,170,171,172,173,174,175,176,177,178,179,180,181,182,183,184,185,186,187,188,189,190,191,192,193,194,195,196,197,198,199,201,202,203,204,205,206,207,209,210,211,212,213,214,215,216,217,218,219,220,221,222,223,224,225,226,227,228,229,230,231,232,233,234,235,236,237,238,239,240,241,242,243,244,245,246,247,248,249,250,251,252,253,254,255,256,257,258,259,260,261,262,263,264,265,266,267,268,269,270,271,272,273,274,275,276,277,278,279,280,281,282,283,284,285,286,287,288,289,290,291,292,295,296,297,298,299,307,308,309,310,311,312,313,314,315,316,317,318,319,320,321,322,323,324,325,326,327,328,329,330,331,332,333,334,335,336,337,338,339,340,341,342,343,344,345,346,347,348,349,350,351,352,353,354,355,356,357,358,359,360,361,362,363,364,365,366,367,368,369,370,371,372,373,374,375,376,377,378,379,380,381,382,383,384,385,388,389,392,394,396,397,398,399,400,401,402,403,404,405,406,407,408,409,410,411,412,413,414,415,416,417,418,419,420,421,422,425,426,427,428,429,430,431,432,434,435,437,438,439,440,441,442,443,445,446,447,448,449,450,451,452,454,460,461,462,463,464,465,466,467,468,470,471,473,474,475,476,480,481,482,483,487,489,490,491,506,507,508,509,510,511,512,513,514,517,518,523,524,527,536,539,540,542,543,544,557,558]
theorem all_cut {p:Nat→Bool} {l:List Nat} {n:Nat} (h:(l.take n).all p=true) (h2:(l.drop n).all p=true):l.all p=true:=by
 rw [←List.take_append_drop n l,List.all_append,h,h2];rfl
def goods0:List Nat:=goods
def goods1:List Nat:=goods0.drop 30
def goods2:List Nat:=goods1.drop 30
def goods3:List Nat:=goods2.drop 30
def goods4:List Nat:=goods3.drop 30
def goods5:List Nat:=goods4.drop 30
def goods6:List Nat:=goods5.drop 30
def goods7:List Nat:=goods6.drop 30
def goods8:List Nat:=goods7.drop 30
def goods9:List Nat:=goods8.drop 30
def goods10:List Nat:=goods9.drop 30
def goods11:List Nat:=goods10.drop 30
def goods12:List Nat:=goods11.drop 30
def goods13:List Nat:=goods12.drop 30
def goods14:List Nat:=goods13.drop 30
def goods15:List Nat:=goods14.drop 30
def goods16:List Nat:=goods15.drop 30
theorem goodsOk0:(goods0.take 30).all (goodB Tryz.prog dyn)=true:=by decide +kernel
theorem goodsOk1:(goods1.take 30).all (goodB Tryz.prog dyn)=true:=by decide +kernel
theorem goodsOk2:(goods2.take 30).all (goodB Tryz.prog dyn)=true:=by decide +kernel
theorem goodsOk3:(goods3.take 30).all (goodB Tryz.prog dyn)=true:=by decide +kernel
theorem goodsOk4:(goods4.take 30).all (goodB Tryz.prog dyn)=true:=by decide +kernel
theorem goodsOk5:(goods5.take 30).all (goodB Tryz.prog dyn)=true:=by decide +kernel
theorem goodsOk6:(goods6.take 30).all (goodB Tryz.prog dyn)=true:=by decide +kernel
theorem goodsOk7:(goods7.take 30).all (goodB Tryz.prog dyn)=true:=by decide +kernel
theorem goodsOk8:(goods8.take 30).all (goodB Tryz.prog dyn)=true:=by decide +kernel
theorem goodsOk9:(goods9.take 30).all (goodB Tryz.prog dyn)=true:=by decide +kernel
theorem goodsOk10:(goods10.take 30).all (goodB Tryz.prog dyn)=true:=by decide +kernel
theorem goodsOk11:(goods11.take 30).all (goodB Tryz.prog dyn)=true:=by decide +kernel
theorem goodsOk12:(goods12.take 30).all (goodB Tryz.prog dyn)=true:=by decide +kernel
theorem goodsOk13:(goods13.take 30).all (goodB Tryz.prog dyn)=true:=by decide +kernel
theorem goodsOk14:(goods14.take 30).all (goodB Tryz.prog dyn)=true:=by decide +kernel
theorem goodsOk15:(goods15.take 30).all (goodB Tryz.prog dyn)=true:=by decide +kernel
theorem goodsEnd:goods16.all (goodB Tryz.prog dyn)=true:=by decide +kernel
theorem goods_ok:goods.all (goodB Tryz.prog dyn)=true:=(all_cut (l:=goods0) (n:=30) goodsOk0 (all_cut (l:=goods1) (n:=30) goodsOk1 (all_cut (l:=goods2) (n:=30) goodsOk2 (all_cut (l:=goods3) (n:=30) goodsOk3 (all_cut (l:=goods4) (n:=30) goodsOk4 (all_cut (l:=goods5) (n:=30) goodsOk5 (all_cut (l:=goods6) (n:=30) goodsOk6 (all_cut (l:=goods7) (n:=30) goodsOk7 (all_cut (l:=goods8) (n:=30) goodsOk8 (all_cut (l:=goods9) (n:=30) goodsOk9 (all_cut (l:=goods10) (n:=30) goodsOk10 (all_cut (l:=goods11) (n:=30) goodsOk11 (all_cut (l:=goods12) (n:=30) goodsOk12 (all_cut (l:=goods13) (n:=30) goodsOk13 (all_cut (l:=goods14) (n:=30) goodsOk14 (all_cut (l:=goods15) (n:=30) goodsOk15 goodsEnd))))))))))))))))
/-- At entry: slices of pointed-at variables that become ones under making. -/
def ownA (f:Nat):List (Nat×Nat×Nat) :=
 match f with
 | 19=>[(0,1,5)]
 | 195=>[(0,1,5)]
 | 296=>[(0,1,5)]
 | 297=>[(0,1,5)]
 | 389=>[(0,1,5)]
 | _=>[]
noncomputable def K0:Cfg:={ P:=Tryz.prog,prim:=prim,primH:=primH,ownA:=ownA,bT:=67,wrT:=wrT,wrE:=wrE,wrB:=wrB,nlT:=nlT,nlA:=nlA,live:=live,ret:=ret,good:=fun f=>goods.contains f,dyn:=dyn,out:=out,post:=post }
theorem K0_ok:CfgOk Lay K0 where
 prim:=prim_ok
 primH:=primH_ok
 good:=fun f h=>by
  have h1:f∈goods:=by simpa [K0] using h
  exact goodB_ok (C:=K0) (List.all_eq_true.1 goods_ok f h1)
 mixed:=by show Tryz.prog.follows .mixedOrders=true;decide +kernel
end Go.Ab
