/- What is proved: contracts of the program's and the reference's functions in the evaluator, and plain laws on them. Conditions: as each states. -/
import Derived.Calls
import Derived.Below
import Derived.Laws.Cells
import Derived.Laws.CopyRow
import Derived.Laws.Entries
import Derived.Lib.Strings
import Derived.Laws.Strings
import Derived.Laws.StructEq
import Derived.Laws.BytesArg
import Derived.MapKept
import Derived.Shelf.Abstract
import Derived.Lib.AppendStr
import Derived.Lib.FrozenHead
import Derived.IntWalk
import Derived.Still
import Derived.Laws.Sem
import Derived.Deep.Draws
import Derived.Recover
import Derived.Shelf.Strings.BuilderF
set_option linter.unusedSimpArgs false
set_option linter.unusedSectionVars false
set_option linter.unusedVariables false
set_option maxRecDepth 100000
namespace Go.Ab
open Go Go.Proofs
inductive AV where
 | int (k:IntKind) (n:Int)
 | bool (b:Bool)
 | str (s:List UInt8)
 | nilp | nilf | nili | nilm | nils
 | emp (b:Bool)
 | rows (rs:List (List AV))
 | lit (rs:List (List AV))
 | rptr (row:List AV) (o:Nat)
 | agg (cs:List AV)
 | tup (vs:List AV)
 | fn (f:FuncId) (caps:List AV)
 | bnd (f:FuncId) (fs:List AV)
 | iface (t:TypeId) (v:AV)
 | ptr (l o:Nat)
 | own (l n:Nat)
 | optr (l n i o:Nat)
 | mp (l:Nat)
 | tptr (t:TypeId) (l o:Nat)
 | town (t:TypeId) (l n:Nat)
 | vw (l n a m:Nat)
 | any
 deriving Inhabited
inductive Blk where
 | cells (cs:List AV)
 | rows (sz:Nat) (rs:List (List AV)) (wr:Bool)
 | hole
 | map (es:List (AV×AV))
 deriving Inhabited
abbrev Heap:=List Blk
abbrev Fr:=List (Nat×AV)
inductive Pop where
 | cell (i d:Nat)
 | row (i d j c:Nat)
 | new (i d c z:Nat) (q:Bool)
 | tidy
 | whenF (i:Nat)
 | whenN (i d c:Nat)
 | whenT (i:Nat)
 | opt (i c:Nat)
 | keep (l:List Nat)
 | inner (i d j c c2:Nat)
inductive It where
 | code (c:Code)
 | blk (id n:Nat)
 | lp (c:Code) (live:Option (List Nat×List Nat)) (n:Nat)
 | pst (live:List Nat) (ops:List Pop)
inductive Tk where
 | run (f:FuncId) (k:Nat) (ks:List It) (fr:Fr) (h:Heap)
 | call (f:FuncId) (args:List AV) (h:Heap)
abbrev Res:=Option (AV×Heap)
structure Cfg where
 P:Program
 prim:FuncId→List AV→Option AV
 primH:FuncId→List AV→Heap→Option (AV×Heap)
 ownA:FuncId→List (Nat×Nat×TypeId)
 bT:TypeId
 wrT:TypeId→Bool
 nlT:TypeId→Bool
 nlA:FuncId→Bool×Nat
 live:FuncId→Nat→Option (List Nat×List (Nat×Option Nat×Nat×Bool)×List Nat)
 ret:FuncId→Nat
 good:FuncId→Bool
 dyn:FuncId→Nat→List (Nat×Nat)
 out:FuncId→Nat→Option (List Nat)
 post:FuncId→List (Nat×List Nat×List Pop)
 wrE:TypeId→Bool:=fun _=>false
 wrB:TypeId→Bool:=fun _=>false
def get:Fr→Nat→AV
 | [],_=>.any
 | (j,v)::fr,i=>if j=i then v else get fr i
def put (fr:Fr):Option Nat→AV→Fr
 | some d,v=>(d,v)::fr
 | none,_=>fr
mutual
def ofVal:Value→AV
 | .int k n=>.int k n
 | .bool b=>.bool b
 | .string s=>.str s.data.toList
 | .pointer none=>.nilp
 | .nilFunc=>.nilf
 | .nilIface=>.nili
 | .map none=>.nilm
 | .slice none 0 0=>.nils
 | .agg ⟨cs⟩=>.agg (ofVals cs)
 | _=>.any
def ofVals:List Value→List AV
 | []=>[]
 | v::vs=>ofVal v::ofVals vs
end
def ev (fr:Fr):Operand→AV
 | .tmp t=>get fr t
 | .const v=>ofVal v
 | .func f=>.fn f []
 | .global _=>.any
def single:AV→Bool
 | .agg _ | .tup _ | .any=>false
 | _=>true
def singles:List AV→Bool
 | []=>true
 | a::r=>single a&&singles r
def cellsOf:AV→Option (List AV)
 | .agg cs=>if singles cs then some cs else none
 | .tup _ | .any=>none
 | v=>some [v]
inductive Sh where
 | one
 | agg (n:Nat)
def sh (P:Program) (t:TypeId):Option Sh :=
 match P.underlying t,P.info? t with
 | some (.struct _),some i | some (.array _ _),some i=>some (.agg i.size)
 | some _,some _=>some .one
 | _,_=>none
def zv (P:Program) (t:TypeId):Option AV :=
 match P.info? t with
 | some i=>i.zero.map ofVal
 | none=>none
def es (P:Program) (t:TypeId):Option (Nat×Nat) :=
 match P.underlying t with
 | some (.slice e)=>match P.info? e with
  | some i=>match i.zero with
   | some y=>if y.cells.size=i.size then some (i.size,i.bytes) else none
   | none=>none
  | none=>none
 | _=>none
def ar (P:Program) (t:TypeId):Option (Nat×TypeId×Nat) :=
 match P.underlying t with
 | some (.array n e)=>(P.info? e).map fun i=>(n,e,i.size)
 | _=>none
def fo (P:Program) (t:TypeId) (f:Nat):Option (Nat×TypeId) :=
 match P.underlying t with
 | some (.struct fs)=>match fs[f]? with
  | some x=>match P.info? x.type with
   | some i=>if i.size=0 then none else some (x.offset,x.type)
   | none=>none
  | none=>none
 | _=>none
def part (s:Option Sh) (cs:List AV) (o:Nat):Option AV :=
 match s with
 | some .one=>cs[o]?
 | some (.agg n)=>if o+n≤cs.length then some (.agg ((cs.drop o).take n)) else none
 | none=>none
def aLoad (P:Program) (t:TypeId) (p:AV) (h:Heap):Option AV :=
 match p with
 | .rptr row o=>part (sh P t) row o
 | .ptr l o=>match h[l]? with
  | some (.cells cs)=>part (sh P t) cs o
  | _=>none
 | .optr l n i o=>match h[l]? with
  | some (.rows _ rs _)=>if rs.length=n then match rs[i]? with
    | some row=>part (sh P t) row o
    | none=>none
   else none
  | _=>none
 | _=>none
def cut {α:Type} (l:List α) (a b:Nat):List α:=(l.drop a).take (b - a)
def splice (cs:List AV) (o:Nat) (vs:List AV):List AV:=cs.take o++vs++cs.drop (o+vs.length)
mutual
def locs:AV→List Nat
 | .ptr l _ | .own l _ | .optr l _ _ _ | .mp l | .tptr _ l _ | .town _ l _ | .vw l _ _ _=>[l]
 | .agg cs | .tup cs | .fn _ cs | .bnd _ cs=>locsL cs
 | .iface _ a=>locs a
 | _=>[]
def locsL:List AV→List Nat
 | []=>[]
 | a::r=>locs a++locsL r
end
def locsR:List (List AV)→List Nat
 | []=>[]
 | row::r=>locsL row++locsR r
mutual
def purify (h:Heap):AV→Option AV
 | .own l n=>match h[l]? with
  | some (.rows _ rs wr)=>if rs.length=n∧(wr=false∧locsR rs=[]) then some (.rows rs) else none
  | _=>none
 | .nils=>some (.rows [])
 | .lit rs=>some (.rows rs)
 | .agg cs=>match purifyL h cs with
  | some cs=>some (.agg cs)
  | none=>none
 | .tup cs=>match purifyL h cs with
  | some cs=>some (.tup cs)
  | none=>none
 | .fn f cs=>match purifyL h cs with
  | some cs=>some (.fn f cs)
  | none=>none
 | .bnd f cs=>match purifyL h cs with
  | some cs=>some (.bnd f cs)
  | none=>none
 | .iface t a=>match purify h a with
  | some a=>some (.iface t a)
  | none=>none
 | .ptr _ _ | .optr _ _ _ _ | .mp _ | .tptr _ _ _ | .town _ _ _ | .vw _ _ _ _=>none
 | a=>some a
def purifyL (h:Heap):List AV→Option (List AV)
 | []=>some []
 | a::r=>match purify h a with
  | some a=>match purifyL h r with
   | some r=>some (a::r)
   | none=>none
  | none=>none
end
mutual
def purifyK (h:Heap):AV→Option AV
 | .own l n=>match h[l]? with
  | some (.rows _ rs wr)=>if rs.length=n∧(wr=false∧locsR rs=[]) then some (.rows rs) else none
  | _=>none
 | .agg cs=>match purifyKL h cs with
  | some cs=>some (.agg cs)
  | none=>none
 | .tup cs=>match purifyKL h cs with
  | some cs=>some (.tup cs)
  | none=>none
 | .fn f cs=>match purifyKL h cs with
  | some cs=>some (.fn f cs)
  | none=>none
 | .bnd f cs=>match purifyKL h cs with
  | some cs=>some (.bnd f cs)
  | none=>none
 | .iface t a=>match purifyK h a with
  | some a=>some (.iface t a)
  | none=>none
 | .ptr _ _ | .optr _ _ _ _ | .mp _ | .tptr _ _ _ | .town _ _ _ | .vw _ _ _ _=>none
 | a=>some a
def purifyKL (h:Heap):List AV→Option (List AV)
 | []=>some []
 | a::r=>match purifyK h a with
  | some a=>match purifyKL h r with
   | some r=>some (a::r)
   | none=>none
  | none=>none
end
def pur (kn:Bool) (h:Heap) (v:AV):Option AV:=match kn with
 | true=>purifyK h v
 | false=>purify h v
def keptA (h:Heap) (v:AV):AV:=match purify h v with
 | some v=>v
 | none=>v
def szOf (P:Program) (t:TypeId):Option Nat :=
 match P.info? t with
 | some i=>some i.size
 | none=>none
def aStore (P:Program) (t:TypeId) (p v:AV) (h:Heap):Option Heap :=
 match p with
 | .ptr l o=>match h[l]? with
  | some (.cells cs)=>match cellsOf v with
   | some vs=>if szOf P t=some vs.length∧o+vs.length≤cs.length then some (h.set l (.cells (splice cs o vs))) else none
   | none=>none
  | _=>none
 | .optr l n i o=>match h[l]? with
  | some (.rows sz rs true)=>match cellsOf (keptA h v) with
    | some vs=>if rs.length=n then match rs[i]? with
      | some row=>if szOf P t=some vs.length∧o+vs.length≤row.length then some (h.set l (.rows sz (rs.set i (splice row o vs)) true)) else none
      | none=>none
     else none
    | none=>none
  | _=>none
 | _=>none
def wrapI (k:IntKind) (n:Int):Int:=k.wrap n
def shlI (k:IntKind) (a b:Int):Int:=wrapI k (a*2 ^ (min b.toNat k.bits))
def shrI (k:IntKind) (a b:Int):Int:=a.fdiv (2 ^ (min b.toNat k.bits))
def aShift (op:BinOp) (k:IntKind) (a b:Int):Option AV :=
 match op with
 | .shl=>if b < 0 then none else some (.int k (shlI k a b))
 | .shr=>if b < 0 then none else some (.int k (shrI k a b))
 | _=>none
def bitsI (op:BinOp) (k:IntKind) (x y:Int):Int :=
 match op with
 | .and=>wrapI k (BitVec.ofInt k.bits x &&& BitVec.ofInt k.bits y).toNat
 | .or=>wrapI k (BitVec.ofInt k.bits x ||| BitVec.ofInt k.bits y).toNat
 | _=>wrapI k (BitVec.ofInt k.bits x ^^^ BitVec.ofInt k.bits y).toNat
def aInt (op:BinOp) (k:IntKind) (a b:Int):Option AV :=
 match op with
 | .add=>some (.int k (wrapI k (a+b)))
 | .sub=>some (.int k (wrapI k (a - b)))
 | .mul=>some (.int k (wrapI k (a*b)))
 | .quo=>if b=0 then none else some (.int k (wrapI k (a.tdiv b)))
 | .rem=>if b=0 then none else some (.int k (a.tmod b))
 | .eql=>some (.bool (a==b))
 | .neq=>some (.bool (a != b))
 | .lss=>some (.bool (decide (a < b)))
 | .leq=>some (.bool (decide (a≤b)))
 | .gtr=>some (.bool (decide (b < a)))
 | .geq=>some (.bool (decide (b≤a)))
 | .shl=>if b < 0 then none else some (.int k (shlI k a b))
 | .shr=>if b < 0 then none else some (.int k (shrI k a b))
 | .and=>some (.int k (bitsI .and k a b))
 | .or=>some (.int k (bitsI .or k a b))
 | .xor=>some (.int k (bitsI .xor k a b))
 | .andNot=>none
def strMax:Nat:=4611686018427387904
def aStr (op:BinOp) (a b:List UInt8):Option AV :=
 match op with
 | .add=>if a.length+b.length≤strMax then some (.str (a++b)) else none
 | .eql=>some (.bool (a==b))
 | .neq=>some (.bool (!(a==b)))
 | .lss=>some (.bool (Op.bytesLess a b))
 | .leq=>some (.bool (Op.bytesLess a b||a==b))
 | .gtr=>some (.bool (!(Op.bytesLess a b||a==b)))
 | .geq=>some (.bool (!Op.bytesLess a b))
 | _=>none
inductive FK where
 | int | bool | str
def eqCell:FK→AV→AV→Option Bool
 | .int,.int k a,.int k' b=>if k=k' then some (a==b) else none
 | .bool,.bool a,.bool b=>some (a==b)
 | .str,.str a,.str b=>some (a==b)
 | _,_,_=>none
def eqCells:List FK→List AV→List AV→Option Bool
 | [],[],[]=>some true
 | k::ks,a::r,b::s=>match eqCell k a b with
  | some x=>match eqCells ks r s with
   | some y=>some (x&&y)
   | none=>none
  | none=>none
 | _,_,_=>none
def notO:Option Bool→Option AV
 | some b=>some (.bool (!b))
 | none=>none
def yesO:Option Bool→Option AV
 | some b=>some (.bool b)
 | none=>none
def fkOf (P:Program) (t:TypeId):Option FK :=
 match P.underlying t with
 | some (.int _)=>some .int
 | some .bool=>some .bool
 | some .string=>some .str
 | _=>none
def flatFields (P:Program):Nat→List Field→Option (List FK)
 | _,[]=>some []
 | n,f::r=>if f.offset=n∧f.name ≠ "_" then match fkOf P f.type with
   | some k=>match flatFields P (n+1) r with
    | some ks=>some (k::ks)
    | none=>none
   | none=>none
  else none
def flatSub (P:Program) (t:TypeId):Option (List FK) :=
 match P.underlying t,sh P t with
 | some (.struct fs),some (.agg n)=>if P.stoodInHeld t=false then match flatFields P 0 fs.toList with
   | some ks=>if ks.length=n then some ks else none
   | none=>none
  else none
 | _,_=>none
def flatFields2 (P:Program):Nat→List Field→Option (List FK)
 | _,[]=>some []
 | n,f::r=>if f.offset=n∧f.name ≠ "_" then match fkOf P f.type with
   | some k=>match flatFields2 P (n+1) r with
    | some ks=>some (k::ks)
    | none=>none
   | none=>match flatSub P f.type with
    | some l=>match flatFields2 P (n+l.length) r with
     | some ks=>some (l++ks)
     | none=>none
    | none=>none
  else none
def flat (P:Program) (t:TypeId):Option (List FK) :=
 match P.underlying t with
 | some (.struct fs)=>if P.stoodInHeld t=false∧P.eqGuardType P.depth t=false then flatFields2 P 0 fs.toList else none
 | _=>none
inductive CK where
 | bool | iface | ptr | fn | map | flat (ks:List FK) | no
def ck (P:Program) (t:TypeId):CK :=
 match P.underlying t with
 | some .bool=>.bool
 | some (.interface _)=>.iface
 | some (.pointer _)=>.ptr
 | some (.func _ _ _)=>.fn
 | some (.map _ _)=>.map
 | _=>match flat P t with
  | some ks=>.flat ks
  | none=>.no
def eqV (k:Bool):CK→AV→AV→Option Bool
 | .bool,.bool a,.bool b=>some (a==b)
 | .flat ks,.agg a,.agg b=>eqCells ks a b
 | .iface,.nili,.nili=>if k then some true else none
 | .iface,.nili,.iface _ _=>some false
 | .iface,.iface _ _,.nili=>some false
 | .ptr,.nilp,.nilp=>some true
 | .ptr,.nilp,.ptr _ _=>some false
 | .ptr,.ptr _ _,.nilp=>some false
 | .ptr,.optr _ _ _ _,.nilp=>some false
 | .ptr,.rptr _ _,.nilp=>some false
 | .ptr,.tptr _ _ _,.nilp=>some false
 | .fn,.nilf,.nilf=>some true
 | .fn,.fn _ _,.nilf=>some false
 | .fn,.bnd _ _,.nilf=>some false
 | .fn,.nilf,.fn _ _=>some false
 | .map,.nilm,.nilm=>some true
 | .map,.mp _,.nilm=>some false
 | _,_,_=>none
def eqOp (op:BinOp) (r:Option Bool):Option AV :=
 match op with
 | .eql=>yesO r
 | .neq=>notO r
 | _=>none
def aBin (P:Program) (op:BinOp) (t:TypeId) (k:Bool) (x y:AV):Option AV :=
 match x,y with
 | .int k a,.int k' b=>if k=k' then aInt op k a b else aShift op k a b
 | .str a,.str b=>aStr op a b
 | x,y=>eqOp op (eqV k (ck P t) x y)
def aUn (op:UnOp) (x:AV):Option AV :=
 match op,x with
 | .not,.bool b=>some (.bool !b)
 | .neg,.int k a=>some (.int k (wrapI k (0 - a)))
 | _,_=>none
def isSl (P:Program) (t:TypeId):Bool :=
 match P.underlying t with
 | some (.slice _)=>true
 | _=>false
def nilOf (h:Heap):AV→Option Bool
 | .nils=>some true
 | .emp b=>some b
 | .rows rs | .lit rs=>if rs.isEmpty=true then none else some false
 | .own l n=>match h[l]? with
  | some (.rows _ rs _)=>if rs.length=n∧0 < n then some false else none
  | _=>none
 | _=>none
def nilEq (P:Program) (op:BinOp) (t:TypeId) (h:Heap) (x:AV):AV→Option AV
 | .nils=>if isSl P t=true then eqOp op (nilOf h x) else none
 | _=>none
def orV (r:Option AV):Option AV→Option AV
 | some v=>some v
 | none=>r
def val (h:Heap):Option AV→Option (AV×Heap)
 | some v=>some (v,h)
 | none=>none
def vunit:Option Heap→Option (AV×Heap)
 | some h=>some (.any,h)
 | none=>none
def pick:AV→AV→AV→Option AV
 | .bool c,a,b=>some (bif c then a else b)
 | _,_,_=>none
def locsB:Blk→List Nat
 | .cells cs=>locsL cs
 | .rows _ rs _=>locsR rs
 | _=>[]
def locsH:Heap→List Nat
 | []=>[]
 | b::r=>locsB b++locsH r
def locsF:Fr→List Nat
 | []=>[]
 | (_,v)::r=>locs v++locsF r
def under (n:Nat):List Nat→Bool
 | []=>true
 | l::r=>decide (l < n)&&under n r
mutual
def ren (σ:Nat→Nat):AV→AV
 | .ptr l o=>.ptr (σ l) o
 | .own l n=>.own (σ l) n
 | .optr l n i o=>.optr (σ l) n i o
 | .mp l=>.mp (σ l)
 | .tptr t l o=>.tptr t (σ l) o
 | .town t l n=>.town t (σ l) n
 | .vw l n a m=>.vw (σ l) n a m
 | .agg cs=>.agg (renL σ cs)
 | .tup cs=>.tup (renL σ cs)
 | .fn f cs=>.fn f (renL σ cs)
 | .bnd f cs=>.bnd f (renL σ cs)
 | .iface t a=>.iface t (ren σ a)
 | a=>a
def renL (σ:Nat→Nat):List AV→List AV
 | []=>[]
 | a::r=>ren σ a::renL σ r
end
def renR (σ:Nat→Nat):List (List AV)→List (List AV)
 | []=>[]
 | row::r=>renL σ row::renR σ r
def renB (σ:Nat→Nat):Blk→Blk
 | .cells cs=>.cells (renL σ cs)
 | .rows z rs wr=>.rows z (renR σ rs) wr
 | b=>b
mutual
def conv (h:Heap):AV→Option AV
 | .own l n=>match h[l]? with
  | some (.rows _ rs wr)=>if wr=true∨locsR rs≠[] then some (.own l n) else if rs.length=n then some (.rows rs) else none
  | _=>none
 | .nils=>some (.rows [])
 | .lit rs=>some (.rows rs)
 | .agg cs=>match convL h cs with
  | some cs=>some (.agg cs)
  | none=>none
 | a=>some a
def convL (h:Heap):List AV→Option (List AV)
 | []=>some []
 | a::r=>match conv h a with
  | some a=>match convL h r with
   | some r=>some (a::r)
   | none=>none
  | none=>none
end
def reach (h:Heap):Nat→List Nat→List Nat→List Nat
 | 0,_,s=>s
 | _+1,[],s=>s
 | n+1,l::r,s=>if s.contains l then reach h n r s else match h[l]? with
  | some b=>reach h n (r++locsB b) (s++[l])
  | none=>reach h n r (s++[l])
def posOf:List Nat→Nat→Nat
 | [],_=>0
 | x::r,l=>if x=l then 0 else posOf r l+1
def outer (ls:List Nat) (m:Nat) (i:Nat):Nat:=match ls[i]? with
 | some l=>l
 | none=>m+(i - ls.length)
def sub (h:Heap) (σ:Nat→Nat):List Nat→Option Heap
 | []=>some []
 | l::r=>match h[l]? with
  | some b=>match sub h σ r with
   | some hs=>some (renB σ b::hs)
   | none=>none
  | none=>none
def back (σ:Nat→Nat):List Nat→Heap→Heap→Heap
 | l::ls,b::bs,h=>back σ ls bs (h.set l (renB σ b))
 | _,_,h=>h
def afterMany (h:Heap) (ls:List Nat) (r:AV) (hs:Heap):Option (AV×Heap) :=
 some (ren (outer ls h.length) r,back (outer ls h.length) ls hs h++(hs.drop ls.length).map (renB (outer ls h.length)))
def hasNilL:List AV→Bool
 | []=>false
 | .nils::_=>true
 | _::r=>hasNilL r
def hasNil:List (List AV)→Bool
 | []=>false
 | row::r=>hasNilL row||hasNil r
def okRow (row:List AV):Option (List AV)→Option (List AV)
 | some row'=>if row'.length=row.length∧singles row'=true then some row' else none
 | none=>none
def snapRows (f:List AV→Option (List AV)):List (List AV)→Option (List (List AV))
 | []=>some []
 | row::r=>match okRow row (f row) with
  | some row'=>match snapRows f r with
   | some r=>some (row'::r)
   | none=>none
  | none=>none
def snapOf (f:List AV→Option (List AV)) (rs:List (List AV)):Option (List (List AV)):=if locsR rs=[]∧hasNil rs=false then some rs else snapRows f rs
mutual
def snapG (f:List AV→Option (List AV)) (h:Heap):AV→Option AV
 | .own l n=>match h[l]? with
  | some (.rows _ rs _)=>if rs.length=n then (match snapOf f rs with
   | some rs=>some (.rows rs)
   | none=>none) else none
  | _=>none
 | .ptr l o=>match h[l]? with
  | some (.cells cs)=>(match okRow cs (f cs) with
   | some cs=>some (.rptr cs o)
   | none=>none)
  | _=>none
 | .optr l n i o=>match h[l]? with
  | some (.rows _ rs _)=>if rs.length=n then (match rs[i]? with
   | some row=>(match okRow row (f row) with
    | some row=>some (.rptr row o)
    | none=>none)
   | none=>none) else none
  | _=>none
 | .nils=>some (.rows [])
 | .lit rs=>some (.rows rs)
 | .agg cs=>match snapGL f h cs with
  | some cs=>some (.agg cs)
  | none=>none
 | .tup cs=>match snapGL f h cs with
  | some cs=>some (.tup cs)
  | none=>none
 | .fn g cs=>match snapGL f h cs with
  | some cs=>some (.fn g cs)
  | none=>none
 | .bnd g cs=>match snapGL f h cs with
  | some cs=>some (.bnd g cs)
  | none=>none
 | .iface t a=>match snapG f h a with
  | some a=>some (.iface t a)
  | none=>none
 | .vw l n a m=>match h[l]? with
  | some (.rows _ rs _)=>if rs.length=n∧a+m≤n then (match snapOf f (cut rs a (a+m)) with
   | some rs=>some (.rows rs)
   | none=>none) else none
  | _=>none
 | .mp _ | .tptr _ _ _ | .town _ _ _=>none
 | a=>some a
def snapGL (f:List AV→Option (List AV)) (h:Heap):List AV→Option (List AV)
 | []=>some []
 | a::r=>match snapG f h a with
  | some a=>match snapGL f h r with
   | some r=>some (a::r)
   | none=>none
  | none=>none
end
def snapN:Nat→Heap→List AV→Option (List AV)
 | 0,_,_=>none
 | n+1,h,cs=>snapGL (snapN n h) h cs
mutual
def maskA:AV→AV
 | .agg cs=>.agg (maskL cs)
 | .tup cs=>.tup (maskL cs)
 | .rows []=>.rows []
 | .rows (_::_) | .lit _ | .rptr _ _ | .fn _ _ | .bnd _ _ | .iface _ _ | .optr _ _ _ _ | .tptr _ _ _ | .town _ _ _ | .vw _ _ _ _=>.any
 | a=>a
def maskL:List AV→List AV
 | []=>[]
 | a::r=>maskA a::maskL r
end
def flatA:AV→Bool
 | .int _ _ | .bool _ | .str _ | .nilp | .nilf | .nili | .nilm | .nils | .emp _ | .rows [] | .own _ _ | .ptr _ _ | .mp _=>true
 | _=>false
def flatL:List AV→Bool
 | []=>true
 | a::r=>flatA a&&flatL r
def flatR:List (List AV)→Bool
 | []=>true
 | a::r=>flatL a&&flatR r
def flatB:Blk→Bool
 | .cells cs=>flatL cs
 | .rows _ rs _=>flatR rs
 | .hole=>true
 | .map es=>es.isEmpty
def flatH:Heap→Bool
 | []=>true
 | b::r=>flatB b&&flatH r
def borrowed (h:Heap):Option (AV×Heap)→Option (AV×Heap)
 | some (r,nb)=>if flatH nb=true then afterMany h [] (maskA r) nb else none
 | none=>none
def afterPure (h:Heap):Res→Option (AV×Heap)
 | some (r,[])=>some (r,h)
 | some (.own 0 n,[b])=>if locsB b=[] then some (.own h.length n,h++[b]) else none
 | some (r,b::hs)=>afterMany h [] r (b::hs)
 | none=>none
def afterIn (h:Heap) (ls:List Nat):Res→Option (AV×Heap)
 | some (r,hs)=>if hs.length=ls.length then some (ren (outer ls h.length) r,back (outer ls h.length) ls hs h)
  else if hs.length=ls.length+1 then match hs[ls.length]? with
   | some (.rows z rs wr)=>if locsR rs=[] then some (ren (outer ls h.length) r,back (outer ls h.length) ls hs h++[.rows z rs wr]) else afterMany h ls r hs
   | _=>afterMany h ls r hs
  else if ls.length≤hs.length then afterMany h ls r hs else none
 | none=>none
def callIn (F:Tk→Res) (g:FuncId) (h:Heap) (ls:List Nat) (args:List AV):Option (AV×Heap) :=
 if under ls.length ((locsL args).map (posOf ls)) then match sub h (posOf ls) ls with
  | some hs=>if under ls.length (locsH hs) then afterIn h ls (F (.call g (renL (posOf ls) args) hs)) else none
  | none=>none
 else none
def lookBy (F:Tk→Res) (g:FuncId) (h:Heap):Option (List AV)→Option (AV×Heap)
 | some pure=>borrowed h (F (.call g pure []))
 | none=>none
def ownHead:List AV→Bool
 | .own _ _::_ | .vw _ _ _ _::_=>true
 | _=>false
def bwOf (bw:Nat) (args:List AV):Nat:=bif bw==4 then (bif ownHead args then 1 else 0) else bw
theorem bwOf_ne {bw:Nat} {args:List AV} (h:bw≠2):bwOf bw args≠2:=by
 unfold bwOf
 cases bw==4<;>cases ownHead args<;>simp [h]
def callBy (bw:Nat) (F:Tk→Res) (g:FuncId) (h:Heap) (args:List AV):Option (List AV)→Option (AV×Heap)
 | some pure=>afterPure h (F (.call g pure []))
 | none=>match bwOf bw args with
  | 1=>lookBy F g h (snapN 8 h args)
  | 2=>F (.call g args h)
  | _=>match convL h args with
   | some args=>callIn F g h (reach h 100 (locsL args) []) args
   | none=>none
def purA (nl:Bool) (h:Heap) (args:List AV):Option (List AV):=match nl with
 | true=>purifyKL h args
 | false=>purifyL h args
def callV (nl:FuncId→Bool×Nat) (F:Tk→Res) (h:Heap) (args:List AV):AV→Option (AV×Heap)
 | .fn g caps=>callBy (nl g).2 F g h (args++caps) (purA (nl g).1 h (args++caps))
 | .bnd g fs=>callBy (nl g).2 F g h (fs++args) (purA (nl g).1 h (fs++args))
 | _=>none
def extractV (i:Nat):AV→Option AV
 | .tup l=>l[i]?
 | _=>none
def addOff (n:Nat):AV→Option AV
 | .ptr l o=>some (.ptr l (o+n))
 | .rptr r o=>some (.rptr r (o+n))
 | .optr l m i o=>some (.optr l m i (o+n))
 | .tptr _ l o=>some (.ptr l (o+n))
 | _=>none
def fieldA (x:AV):Option (Nat×TypeId)→Option AV
 | some (o,_)=>addOff o x
 | none=>none
def fieldV (P:Program) (x:AV):Option (Nat×TypeId)→Option AV
 | some (o,t)=>match x with
  | .agg cs=>part (sh P t) cs o
  | _=>none
 | none=>none
def at? {α:Type} (l:List α) (i:Int):Option α:=if 0≤i then l[i.toNat]? else none
def rowOk (z:Nat) (row:List AV):Option AV:=if row.length=z then some (.rptr row 0) else none
def indexP (P:Program) (t:TypeId) (h:Heap) (i:AV) (x:AV):Option AV :=
 match i with
 | .int _ i=>match x with
  | .rows rs | .lit rs=>match es P t with
   | some (z,_)=>match at? rs i with
    | some row=>rowOk z row
    | none=>none
   | none=>none
  | .own l n=>match es P t with
   | some (z,_)=>match h[l]? with
    | some (.rows sz rs _)=>if rs.length=n∧sz=z then match at? rs i with
      | some _=>some (.optr l n i.toNat 0)
      | none=>none
     else none
    | _=>none
   | none=>none
  | .vw l n c m=>match es P t with
   | some (z,_)=>match h[l]? with
    | some (.rows sz rs _)=>if rs.length=n∧sz=z∧c+m≤n then match at? (cut rs c (c+m)) i with
      | some _=>some (.optr l n (c+i.toNat) 0)
      | none=>none
     else none
    | _=>none
   | none=>none
  | .ptr l o=>match ar P t with
   | some (n,_,z)=>if 0≤i∧i < (n:Int) then some (.ptr l (o+i.toNat*z)) else none
   | none=>none
  | _=>none
 | _=>none
def bound (n:Nat):Option AV→Option (Option Int)
 | none=>some none
 | some (.int _ i)=>if 0≤i∧i≤(n:Int) then some (some i) else none
 | _=>none
def low:Option (Option Int)→Nat→Option Nat
 | some (some i),h=>if i≤(h:Int) then some i.toNat else none
 | some none,_=>some 0
 | none,_=>none
def high:Option (Option Int)→Nat→Option Nat
 | some (some i),_=>some i.toNat
 | some none,n=>some n
 | none,_=>none
def bounds2 (n:Nat) (lo hi:Option AV):Option (Nat×Nat) :=
 match high (bound n hi) n with
 | some b=>match low (bound n lo) b with
  | some a=>some (a,b)
  | none=>none
 | none=>none
inductive TK where
 | str
 | slice (z b:Nat)
 | arr (n:Nat)
 | other
def tk (P:Program) (t:TypeId):TK :=
 match P.underlying t with
 | some .string=>.str
 | some (.slice e)=>match P.info? e with
  | some i=>.slice i.size i.bytes
  | none=>.other
 | some (.array n e)=>match P.info? e with
  | some _=>.arr n
  | none=>.other
 | _=>.other
def allLen (z:Nat):List (List AV)→Bool
 | []=>true
 | r::rs=>r.length==z&&allLen z rs
def boundsV (c m:Nat) (lo:Option AV):Option AV→Option (Nat×Nat)
 | none=>if m≤c then bounds2 m lo none else none
 | some x=>bounds2 c lo (some x)
def viewOf (l n c:Nat):Option (Nat×Nat)→Option AV
 | some (a,b)=>some (.vw l n (c+a) (b - a))
 | none=>none
def sliceS (lo hi:Option AV):AV→Option AV
 | .str s=>match bounds2 s.length lo hi with
  | some (a,b)=>some (.str (cut s a b))
  | none=>none
 | _=>none
def sliceR (h:Heap) (z:Nat) (lo hi:Option AV):AV→Option AV
 | .rows rs | .lit rs=>match bounds2 rs.length lo hi with
  | some (a,b)=>if allLen z rs then some (.rows (cut rs a b)) else none
  | none=>none
 | .nils=>match bounds2 0 lo hi with
  | some _=>some .nils
  | none=>none
 | .own l n=>match h[l]? with
  | some (.rows y rs false)=>if rs.length=n∧(y=z∧locsR rs=[]) then match bounds2 rs.length lo hi with
    | some (a,b)=>some (.rows (cut rs a b))
    | none=>none
   else none
  | some (.rows y rs true)=>if rs.length=n∧y=z then viewOf l n 0 (bounds2 n lo hi) else none
  | _=>none
 | .vw l n c m=>match h[l]? with
  | some (.rows y rs true)=>if rs.length=n∧y=z then viewOf l n c (boundsV (n - c) m lo hi) else none
  | _=>none
 | _=>none
def sliceArr (n:Nat) (lo hi:Option AV):AV→Option AV
 | .ptr _ _=>match bounds2 n lo hi with
  | some (a,b)=>some (.rows (List.replicate (b - a) []))
  | none=>none
 | _=>none
def sliceV (h:Heap) (lo hi:Option AV) (x:AV):TK→Option AV
 | .str=>sliceS lo hi x
 | .slice z _=>sliceR h z lo hi x
 | .arr n=>sliceArr n lo hi x
 | .other=>none
def slice3 (h:Heap) (lo hi mx:AV) (k:TK):AV→Option AV
 | .own l n=>match h[l]?,k with
  | some (.rows _ rs _),.slice _ _=>match lo,hi,mx with
   | .int _ a,.int _ b,.int _ c=>if rs.length=n∧0≤a∧a≤b∧b≤c∧c≤(n:Int) then some .any else none
   | _,_,_=>none
  | _,_=>none
 | _=>none
def slice2n (hi mx:AV) (k:TK):AV→Option AV
 | .nils=>match k,hi,mx with
  | .slice _ _,.int _ a,.int _ b=>if a=0∧b=0 then some .nils else none
  | _,_,_=>none
 | _=>none
def lenV:TK→AV→Option AV
 | .str,.str s=>some (.int .i64 (s.length:Int))
 | .slice _ _,.rows rs | .slice _ _,.lit rs=>some (.int .i64 (rs.length:Int))
 | .slice _ _,.own _ n=>some (.int .i64 (n:Int))
 | .slice _ _,.nils=>some (.int .i64 0)
 | .slice _ _,.emp _=>some (.int .i64 0)
 | .slice _ _,.town _ _ n=>some (.int .i64 (n:Int))
 | .slice _ _,.vw _ _ _ m=>some (.int .i64 (m:Int))
 | _,_=>none
def capV:TK→AV→Option AV
 | .slice _ _,.nils=>some (.int .i64 0)
 | _,_=>none
def indexS (P:Program) (t:TypeId) (i:AV) (x:AV):Option AV :=
 match i with
 | .int _ i=>match x with
  | .str s=>match tk P t with
   | .str=>(match at? s i with
    | some b=>some (.int .u8 (b.toNat:Int))
    | none=>none)
   | _=>none
  | .agg cs=>match ar P t with
   | some (n,e,z)=>if 0≤i∧i < (n:Int) then part (sh P e) cs (i.toNat*z) else none
   | none=>none
  | _=>none
 | _=>none
def minI (k:IntKind) (x:Int):List AV→Option AV
 | []=>some (.int k x)
 | .int _ y::r=>minI k (if y < x then y else x) r
 | _=>none
def maxI (k:IntKind) (x:Int):List AV→Option AV
 | []=>some (.int k x)
 | .int _ y::r=>maxI k (if x < y then y else x) r
 | _=>none
def minV:List AV→Option AV
 | .int k x::r=>minI k x r
 | _=>none
def maxV:List AV→Option AV
 | .int k x::r=>maxI k x r
 | _=>none
def rowsOf (h:Heap):AV→Option (List (List AV))
 | .rows rs | .lit rs=>some rs
 | .nils=>some []
 | .emp _=>some []
 | .own l n=>match h[l]? with
  | some (.rows _ rs _)=>if rs.length=n then some rs else none
  | _=>none
 | .vw l n a m=>match h[l]? with
  | some (.rows _ rs _)=>if rs.length=n∧a+m≤n then some (cut rs a (a+m)) else none
  | _=>none
 | _=>none
def roomMax:Nat:=35184372088832
def appendTo (wq:Bool) (h:Heap) (z b:Nat) (xs:AV) (ys:List (List AV)):Option (AV×Heap) :=
 match xs with
 | .nils=>if ys.length*(b+1)≤roomMax then some (.own h.length ys.length,h++[.rows z ys wq]) else none
 | .lit rs=>if 0 < ys.length∧allLen z rs=true∧(rs.length+ys.length)*(b+1)≤roomMax then some (.own h.length (rs.length+ys.length),h++[.rows z (rs++ys) wq]) else if ys=[] then some (.lit rs,h) else none
 | .own l n=>match h[l]? with
  | some (.rows sz rs wr)=>if rs.length=n∧sz=z∧(rs.length+ys.length)*(b+1)≤roomMax then some (.own l (n+ys.length),h.set l (.rows sz (rs++ys) wr)) else none
  | _=>none
 | .vw l n 0 m=>match h[l]? with
  | some (.rows sz rs true)=>if rs.length=n∧sz=z∧0 < n∧m+ys.length≤n then some (.vw l n 0 (m+ys.length),h.set l (.rows sz (rs.take m++ys++rs.drop (m+ys.length)) true)) else none
  | _=>none
 | _=>none
def byteRows:List UInt8→List (List AV)
 | []=>[]
 | b::r=>[.int .u8 (b.toNat:Int)]::byteRows r
def elT (P:Program) (t:TypeId):Option TypeId :=
 match P.underlying t with
 | some (.slice e)=>some e
 | _=>none
def tyO (t:TypeId):Option (AV×Heap)→Option (AV×Heap)
 | some (.own l n,h)=>some (.town t l n,h)
 | _=>none
def appendX (el:Option TypeId) (wq:Bool) (h:Heap) (z b:Nat) (ys:List (List AV)):AV→Option (AV×Heap)
 | .town t l n=>if el=some t then tyO t (appendTo wq h z b (.own l n) ys) else none
 | xs=>appendTo wq h z b xs ys
def appendS (el:Option TypeId) (wq:Bool) (h:Heap) (z b:Nat) (xs:AV):AV→Option (AV×Heap)
 | .str s=>if z=1 then appendX el wq h z b (byteRows s) xs else none
 | _=>none
def makeRows (n z:Nat) (a:AV):Option (List (List AV)) :=
 match cellsOf a with
 | some cs=>if cs.length=z then some (List.replicate n cs) else none
 | none=>none
def elemZero (P:Program) (t:TypeId):Option AV :=
 match P.underlying t with
 | some (.slice e)=>zv P e
 | _=>none
def makeOf (z:Nat) (n:Int) (h:Heap):Option AV→Option (AV×Heap)
 | some a=>match makeRows n.toNat z a with
  | some rs=>some (.own h.length n.toNat,h++[.rows z rs true])
  | none=>none
 | none=>none
def isIntT (P:Program) (u:TypeId):Bool:=match P.underlying u with
 | some (.int _)=>true
 | _=>false
def appendMk (z b:Nat) (h:Heap) (zr:Option AV):AV→AV→Option (AV×Heap)
 | .nils,.int .i64 n=>if 0 < n∧n*((b+1:Nat):Int)≤(roomMax:Int) then makeOf z n h zr else none
 | _,_=>none
def appendV (P:Program) (wq:Bool) (t u:Option TypeId) (h:Heap):List AV→Option (AV×Heap)
 | [xs,ys]=>match t,u with
  | some t,some u=>match tk P u with
   | .slice _ _=>(match es P t with
   | some (z,b)=>match rowsOf h ys with
    | some ys=>if allLen z ys then appendX (elT P t) wq h z b ys xs else none
    | none=>none
   | none=>none)
   | .str=>(match es P t with
   | some (z,b)=>appendS (elT P t) wq h z b xs ys
   | none=>none)
   | .other=>(match es P t with
   | some (z,b)=>if isIntT P u=true then appendMk z b h (elemZero P t) xs ys else none
   | none=>none)
   | _=>none
  | _,_=>none
 | _=>none
def pieces (kn:Bool) (h:Heap) (ev:Operand→AV) (z:Nat):Nat→List (Nat×Operand)→Option (List (List AV))
 | _,[]=>some []
 | i,(j,x)::r=>if i=j then match pur kn h (ev x) with
   | some v=>match cellsOf v with
    | some cs=>if cs.length=z then match pieces kn h ev z (i+1) r with
      | some rs=>some (cs::rs)
      | none=>none
     else none
    | none=>none
   | none=>none
  else none
def piecesN (h:Heap) (ev:Operand→AV) (z:Nat):Nat→List (Nat×Operand)→Option (List (List AV))
 | _,[]=>some []
 | i,(j,x)::r=>if i=j then match cellsOf (keptA h (ev x)) with
   | some cs=>if cs.length=z then match piecesN h ev z (i+1) r with
     | some rs=>some (cs::rs)
     | none=>none
    else none
   | none=>none
  else none
def sliceN (q:Bool) (n z:Nat) (h:Heap):Option (List (List AV))→Option (AV×Heap)
 | some rs=>if rs.length=n∧n*z≤16777216 then some (.own h.length n,h++[.rows z rs q]) else none
 | none=>none
def orBuild (h:Heap) (r:Option (AV×Heap)):Option AV→Option (AV×Heap)
 | some v=>some (v,h)
 | none=>r
def buildN (q:Bool) (h:Heap) (ev:Operand→AV) (n:Nat) (parts:List (Nat×Operand)):Option (Nat×Nat)→Option (AV×Heap)
 | some (z,_)=>sliceN q n z h (piecesN h ev z 0 parts)
 | none=>none
def sliceOf (n z:Nat):Option (List (List AV))→Option AV
 | some rs=>if rs.length=n∧n*z≤16777216 then some (.lit rs) else none
 | none=>none
inductive Plc where
 | fields (l:List (Nat×Nat))
 | elems (z:Nat)
def fieldPls (P:Program):List Field→Option (List (Nat×Nat))
 | []=>some []
 | f::r=>match P.info? f.type with
  | some i=>match fieldPls P r with
   | some l=>some ((f.offset,i.size)::l)
   | none=>none
  | none=>none
def plc (P:Program) (t:TypeId):Option Plc :=
 match P.underlying t with
 | some (.struct fs)=>match fieldPls P fs.toList with
  | some l=>some (.fields l)
  | none=>none
 | some (.array _ e)=>match P.info? e with
  | some i=>some (.elems i.size)
  | none=>none
 | _=>none
def placeOf:Plc→Nat→Option (Nat×Nat)
 | .fields l,i=>l[i]?
 | .elems z,i=>some (i*z,z)
def fillBy (place:Nat→Option (Nat×Nat)) (ev:Operand→AV):List AV→List (Nat×Operand)→Option AV
 | cs,[]=>some (.agg cs)
 | cs,(i,x)::r=>match place i with
  | some (o,z)=>match cellsOf (ev x) with
   | some vs=>if vs.length=z∧o+vs.length≤cs.length then fillBy place ev (splice cs o vs) r else none
   | none=>none
  | none=>none
def buildV (ev:Operand→AV) (parts:List (Nat×Operand)):Option Plc→Option AV→Option AV
 | some p,some (.agg cs)=>fillBy (placeOf p) ev cs parts
 | _,_=>none
def clearTo (h:Heap) (z:Nat) (zr:List AV):AV→Option Heap
 | .vw l n a m=>match h[l]? with
  | some (.rows sz rs true)=>if rs.length=n∧sz=z∧a+m≤n∧zr.length=z then some (h.set l (.rows sz (rs.take a++List.replicate m zr++rs.drop (a+m)) true)) else none
  | _=>none
 | _=>none
def capH (h:Heap):TK→List AV→Option AV
 | .slice _ _,[.own l 0]=>match h[l]? with
  | some (.rows _ [] _)=>some (.int .i64 0)
  | _=>none
 | k,[x]=>capV k x
 | _,_=>none
def copySrc (h:Heap) (m:Nat):AV→Option (List (List AV))
 | .vw l n a q=>match h[l]? with
  | some (.rows _ rs _)=>if rs.length=n∧a+q≤n then some (cut rs a (a+min q m)) else none
  | _=>none
 | y=>match rowsOf h y with
  | some ys=>if ys.length≤m then some ys else none
  | none=>none
def copyAt (h:Heap) (z l n a m:Nat) (src:AV):Option (AV×Heap) :=
 match h[l]? with
 | some (.rows sz rs true)=>if rs.length=n∧sz=z∧a+m≤n∧0 < m then (match copySrc h m src with
  | some ys=>if allLen z ys=true then some (.int .i64 (ys.length:Int),h.set l (.rows sz (rs.take a++ys++rs.drop (a+ys.length)) true)) else none
  | none=>none) else none
 | _=>none
def copyTo (h:Heap) (z:Nat) (src:AV):AV→Option (AV×Heap)
 | .vw l n a m=>copyAt h z l n a m src
 | .own l n=>copyAt h z l n 0 n src
 | _=>none
def bytesIn:List (List AV)→Option (List UInt8)
 | []=>some []
 | [.int .u8 n]::r=>match bytesIn r with
  | some l=>some (UInt8.ofNat n.toNat::l)
  | none=>none
 | _=>none
def strIn:Option (List UInt8)→Option AV
 | some l=>some (.str l)
 | none=>none
inductive Cv where
 | int (k:IntKind)
 | str
 | bytes
 | ofBytes
 | no
def cvOf (P:Program) (a b:TypeId):Cv :=
 match P.underlying a,P.underlying b with
 | some (.int _),some (.int k)=>.int k
 | some .string,some .string=>.str
 | some (.int _),some .string=>.str
 | some .string,some (.slice e)=>match P.underlying e with
  | some (.int .u8)=>.bytes
  | _=>.no
 | some (.slice e),some .string=>match P.underlying e with
  | some (.int .u8)=>.ofBytes
  | _=>.no
 | _,_=>.no
def convertV (c:Cv) (x:AV):Option AV :=
 match c,x with
 | .int k,.int _ n=>some (.int k (wrapI k n))
 | .str,.str s=>some (.str s)
 | .str,.int _ n=>some (.str (Utf8.encode n).data.toList)
 | .bytes,.str s=>some (.rows (byteRows s))
 | .ofBytes,.rows rs=>strIn (bytesIn rs)
 | .ofBytes,.lit rs=>strIn (bytesIn rs)
 | .ofBytes,.nils=>some (.str [])
 | _,_=>none
def convertO (h:Heap) (c:Cv) (x:AV):Option AV :=
 match c,x with
 | .ofBytes,.own l n=>match h[l]? with
  | some (.rows 1 rs _)=>if rs.length=n then strIn (bytesIn rs) else none
  | _=>none
 | c,x=>convertV c x
def nilCheckV:AV→Option AV
 | .ptr l o=>some (.ptr l o)
 | .optr l n i o=>some (.optr l n i o)
 | .rptr r o=>some (.rptr r o)
 | .fn f c=>some (.fn f c)
 | .tptr t l o=>some (.tptr t l o)
 | _=>none
def ifaceV (P:Program) (t:TypeId) (x:AV):Option AV :=
 match P.underlying t with
 | some (.interface _)=>none
 | some _=>some (.iface t x)
 | none=>none
def clearV (P:Program) (t:Option TypeId) (h:Heap):List AV→Option Heap
 | [x]=>match t with
  | some t=>match es P t,elemZero P t with
   | some (z,_),some a=>match cellsOf a with
    | some zr=>clearTo h z zr x
    | none=>none
   | _,_=>none
  | none=>none
 | _=>none
def copyV (P:Program) (t:Option TypeId) (h:Heap):List AV→Option (AV×Heap)
 | [dst,src]=>match t with
  | some t=>match es P t with
   | some (z,_)=>copyTo h z src dst
   | none=>none
  | none=>none
 | _=>none
def makeSliceV (P:Program) (t:TypeId) (h:Heap) (len cap:AV):Option (AV×Heap) :=
 match len,cap with
 | .int .i64 n,.int .i64 m=>if n=m then match es P t with
  | some (z,b)=>if 0≤n∧n*((b+1:Nat):Int)≤(roomMax:Int) then makeOf z n h (elemZero P t) else none
  | none=>none
  else none
 | _,_=>none
inductive KK where
 | int | str
 | arr (n:Nat)
def kkOf (P:Program) (t:TypeId):Option (KK×TypeId) :=
 match P.underlying t with
 | some (.map k e)=>match P.underlying k with
  | some (.int _)=>some (.int,e)
  | some .string=>some (.str,e)
  | some (.array n i)=>match P.underlying i with
   | some (.int _)=>match P.info? i with
    | some y=>if y.size=1 then some (.arr n,e) else none
    | none=>none
   | _=>none
  | _=>none
 | _=>none
def intsB:Nat→List AV→Bool
 | 0,[]=>true
 | n+1,.int .i64 _::r=>intsB n r
 | _,_=>false
def keyEq:KK→AV→AV→Option Bool
 | .int,.int k a,.int k' b=>if k=k' then some (a==b) else none
 | .str,.str a,.str b=>some (a==b)
 | _,_,_=>none
def findA (kk:KK) (k:AV):List (AV×AV)→Nat→Option (Option (Nat×AV))
 | [],_=>some none
 | (k',v)::r,i=>match keyEq kk k k' with
  | some true=>some (some (i,v))
  | some false=>findA kk k r (i+1)
  | none=>none
def entriesOf (h:Heap):AV→Option (List (AV×AV))
 | .nilm=>some []
 | .mp l=>match h[l]? with
  | some (.map es)=>some es
  | _=>none
 | _=>none
def lookRes (ok:Bool) (z:Option AV):Option (Option (Nat×AV))→Option AV
 | some (some (_,v))=>some (bif ok then .tup [v,.bool true] else v)
 | some none=>match z with
  | some z=>some (bif ok then .tup [z,.bool false] else z)
  | none=>none
 | none=>none
def keyFit:KK→AV→Bool
 | .arr n,.agg a=>intsB n a
 | .arr _,_=>false
 | _,_=>true
def lookupV (P:Program) (t:TypeId) (h:Heap) (x k:AV) (ok:Bool):Option AV :=
 match kkOf P t,entriesOf h x with
 | some (kk,e),some es=>bif keyFit kk k then lookRes ok (zv P e) (findA kk k es 0) else none
 | _,_=>none
def keyOk:KK→AV→Bool
 | .int,.int _ _=>true
 | .str,.str _=>true
 | .arr n,.agg a=>intsB n a
 | _,_=>false
def apartK:AV→AV→Bool
 | .int k a,.int k' b=>decide (k=k')&&!(a==b)
 | .str a,.str b=>!(a==b)
 | _,_=>false
def ltKey:AV→AV→Bool
 | .int _ a,.int _ b=>decide (a < b)
 | .str a,.str b=>Op.bytesLess a b
 | _,_=>false
def insA (k v:AV):List (AV×AV)→List (AV×AV)
 | []=>[(k,v)]
 | p::r=>if ltKey k p.1=true then (k,v)::p::r else p::insA k v r
def mapPut (es:List (AV×AV)) (k v:AV):Option (Nat×AV)→List (AV×AV)
 | some (i,_)=>es.modify i fun _=>(k,v)
 | none=>insA k v es
def mapSet (P:Program) (t:TypeId) (h:Heap) (x k v:AV):Option Heap :=
 match x with
 | .mp l=>match kkOf P t,h[l]? with
  | some (kk,_),some (.map es)=>if keyOk kk k=true then match purify h v,findA kk k es 0 with
   | some v,some r=>some (h.set l (.map (mapPut es k v r)))
   | _,_=>none
   else none
  | _,_=>none
 | _=>none
def evs (ev:Operand→AV):List Operand→List AV
 | []=>[]
 | x::xs=>ev x::evs ev xs
def evo (ev:Operand→AV):Option Operand→Option AV
 | none=>none
 | some x=>some (ev x)
def isConst:Operand→Bool
 | .const _=>true
 | _=>false
def afterD:Res→Option AV
 | some (r,[])=>some r
 | _=>none
def callD (nl:FuncId→Bool×Nat) (F:Tk→Res) (h:Heap) (args:List AV):AV→Option AV
 | .fn g caps=>match purA (nl g).1 h (args++caps) with
  | some pure=>afterD (F (.call g pure []))
  | none=>none
 | _=>none
def tk? (P:Program):Option TypeId→TK
 | some t=>tk P t
 | none=>.other
def builtinD (P:Program) (t:Option TypeId) (b:Builtin) (args:List AV):Option AV :=
 match b,args with
 | .len,[x]=>lenV (tk? P t) x
 | .cap,[x]=>capV (tk? P t) x
 | .min,l=>minV l
 | .max,l=>maxV l
 | _,_=>none
def callOpD (C:Cfg) (F:Tk→Res) (ev:Operand→AV) (h:Heap) (c:Call):Option AV :=
 match c.callee with
 | .value f=>callD C.nlA F h (evs ev c.args.toList) (ev f)
 | .builtin b=>builtinD C.P c.argTypes[0]? b (evs ev c.args.toList)
 | .invoke _ _=>none
def nilC:Operand→Bool
 | .const (.slice none _ _)=>true
 | _=>false
def heapC (y:Operand) (h:Heap):Heap:=bif nilC y then h else []
theorem heapC_or (y:Operand) (h:Heap):heapC y h=h∨heapC y h=[]:=by
 unfold heapC
 cases nilC y
 ·exact .inr rfl
 ·exact .inl rfl
def stepD (C:Cfg) (F:Tk→Res) (ev:Operand→AV) (h:Heap):Op→Option AV
 | .move x=>some (ev x)
 | .assign x=>some (ev x)
 | .pick c a b=>pick (ev c) (ev a) (ev b)
 | .build t parts=>buildV ev parts.toList (plc C.P t) (zv C.P t)
 | .buildSlice t n parts=>match es C.P t with
  | some (z,_)=>sliceOf n z (pieces (C.nlT t) h ev z 0 parts.toList)
  | none=>none
 | .load t a=>aLoad C.P t (ev a) h
 | .nilCheck x=>nilCheckV (ev x)
 | .binOp op t x y _=>orV (nilEq C.P op t (heapC y h) (ev x) (ev y)) (aBin C.P op t (isConst x||isConst y) (ev x) (ev y))
 | .unOp op _ x=>aUn op (ev x)
 | .convert a b x=>convertV (cvOf C.P a b) (ev x)
 | .makeInterface t x=>ifaceV C.P t (ev x)
 | .makeFunc (.func f) first captured=>if first.size=0 then some (.fn f (evs ev captured.toList)) else if captured.size=0 then some (.bnd f (evs ev first.toList)) else none
 | .slice t x lo hi none=>sliceV h (evo ev lo) (evo ev hi) (ev x) (tk C.P t)
 | .slice t x none (some hi) (some mx)=>slice2n (ev hi) (ev mx) (tk C.P t) (ev x)
 | .slice t x (some lo) (some hi) (some mx)=>slice3 h (ev lo) (ev hi) (ev mx) (tk C.P t) (ev x)
 | .fieldAddr t x f=>fieldA (ev x) (fo C.P t f)
 | .field t x f=>fieldV C.P (ev x) (fo C.P t f)
 | .indexAddr t x i=>indexP C.P t h (ev i) (ev x)
 | .index t x i=>indexS C.P t (ev i) (ev x)
 | .extract x i=>extractV i (ev x)
 | .lookup t x i ok=>lookupV C.P t h (ev x) (ev i) ok
 | .call c=>callOpD C F ev h c
 | _=>none
def alloc (h:Heap):Option AV→Option (AV×Heap)
 | some a=>match cellsOf a with
  | some cs=>some (.ptr h.length 0,h++[.cells cs])
  | none=>none
 | none=>none
def firstConst:List Operand→Bool
 | x::_=>isConst x
 | []=>false
def wrOf (C:Cfg):Option TypeId→Bool
 | some t=>C.wrT t
 | none=>false
def litNil:List AV→Bool
 | [.lit [],.lit _]=>false
 | [.lit [],_]=>true
 | _=>false
def wrLit (C:Cfg):Option TypeId→List AV→Bool
 | some t,xs=>bif C.wrE t then litNil xs else false
 | none,_=>false
def callOp (C:Cfg) (F:Tk→Res) (ev:Operand→AV) (h:Heap) (c:Call):Option (AV×Heap) :=
 match c.callee with
 | .value f=>callV C.nlA F h (evs ev c.args.toList) (ev f)
 | .builtin .append=>appendV C.P (firstConst c.args.toList||wrOf C c.argTypes[0]? || wrLit C c.argTypes[0]? (evs ev c.args.toList)) c.argTypes[0]? c.argTypes[1]? h (evs ev c.args.toList)
 | .builtin .clear=>vunit (clearV C.P c.argTypes[0]? h (evs ev c.args.toList))
 | .builtin .cap=>val h (capH h (tk? C.P c.argTypes[0]?) (evs ev c.args.toList))
 | .builtin .copy=>copyV C.P c.argTypes[0]? h (evs ev c.args.toList)
 | .builtin b=>val h (builtinD C.P c.argTypes[0]? b (evs ev c.args.toList))
 | .invoke _ _=>none
def tyP (t:TypeId):Option (AV×Heap)→Option (AV×Heap)
 | some (.ptr l o,h)=>some (.tptr t l o,h)
 | _=>none
def allocT (b:Bool) (t:TypeId) (r:Option (AV×Heap)):Option (AV×Heap):=bif b then tyP t r else r
def noKey (P:Program) (t:TypeId) (h:Heap) (x k:AV):Bool :=
 match x with
 | .mp l=>match kkOf P t,h[l]? with
  | some (kk,_),some (.map es)=>match findA kk k es 0 with
   | some none=>true
   | _=>false
  | _,_=>false
 | _=>false
def mapNew (P:Program) (t:TypeId) (h:Heap) (x k v:AV):Option Heap:=bif noKey P t h x k then mapSet P t h x k v else none
theorem mapNew_set {P:Program} {t:TypeId} {h h':Heap} {x k v:AV} (e:mapNew P t h x k v=some h'):noKey P t h x k=true∧mapSet P t h x k v=some h':=by
 unfold mapNew at e
 cases hn:noKey P t h x k with
 | false=>simp [hn] at e
 | true=>simp only [hn,cond_true] at e;exact ⟨rfl,e⟩
def unlessB (b:Bool) (r:Option AV):Option AV:=match b with
 | true=>none
 | false=>r
def stepO (C:Cfg) (F:Tk→Res) (ev:Operand→AV) (h:Heap) (o:Op):Option (AV×Heap) :=
 match o with
 | .alloc t=>allocT (t==C.bT) t (alloc h (zv C.P t))
 | .box _ x=>alloc h (some (ev x))
 | .store t a v=>vunit (aStore C.P t (ev a) (ev v) h)
 | .makeSlice t n m=>makeSliceV C.P t h (ev n) (ev m)
 | .convert a b x=>val h (convertO h (cvOf C.P a b) (ev x))
 | .buildSlice t n parts=>orBuild h (buildN (C.wrB t) h ev n parts.toList (es C.P t)) (unlessB (C.wrB t) (stepD C F ev h (.buildSlice t n parts)))
 | .makeMap _ none=>some (.mp h.length,h++[.map []])
 | .mapUpdate t m k x=>vunit (mapSet C.P t h (ev m) (ev k) (ev x))
 | .insert t m k x=>vunit (mapNew C.P t h (ev m) (ev k) (ev x))
 | .call c=>callOp C F ev h c
 | o=>val h (stepD C F ev h o)
def slotOf (all:List Oper) (j:Nat):Option Nat :=
 match all[j]? with
 | some o=>o.dst
 | none=>none
def getO (fr:Fr):Option Nat→AV
 | some d=>get fr d
 | none=>.any
def aOps (C:Cfg) (F:Tk→Res) (all:List Oper):List Oper→Fr→Heap→Option (Fr×Heap)
 | [],fr,h=>some (fr,h)
 | o::rest,fr,h=>match o.guard with
  | none=>match stepO C F (ev fr) h o.op with
   | some (v,h)=>aOps C F all rest (put fr o.dst v) h
   | none=>none
  | some (j,want)=>match getO fr (slotOf all j) with
   | .bool b=>if b=want then (match stepO C F (ev fr) h o.op with
     | some (v,h)=>aOps C F all rest (put fr o.dst v) h
     | none=>none) else aOps C F all rest (put fr o.dst (.tup [])) h
   | .tup []=>aOps C F all rest (put fr o.dst (.tup [])) h
   | _=>none
def quietOp:Op→Bool
 | .move _ | .assign _ | .pick _ _ _ | .build _ _ | .buildSlice _ _ _ | .load _ _ | .nilCheck _ | .binOp _ _ _ _ _ | .unOp _ _ _ | .convert _ _ _ | .makeInterface _ _
 | .makeFunc _ _ _ | .slice _ _ _ _ none | .fieldAddr _ _ _ | .field _ _ _ | .indexAddr _ _ _ | .index _ _ _ | .extract _ _ | .lookup _ _ _ _=>true
 | .call c=>match c.callee with
  | .value _=>true
  | .builtin .len | .builtin .min | .builtin .max=>true
  | _=>false
 | _=>false
def isQ (dy:List (Nat×Nat)) (i:Nat) (o:Op):Bool:=quietOp o&&!dy.any (fun p=>p.1==i)
def alo:Op→Bool
 | .alloc _ | .box _ _ | .makeMap _ none | .makeSlice _ _ _=>true
 | _=>false
def fill (h:Heap) (l:Nat):Option AV→Option (AV×Heap)
 | some a=>match cellsOf a,h[l]? with
  | some cs,some .hole=>some (.ptr l 0,h.set l (.cells cs))
  | _,_=>none
 | none=>none
def fillM (h:Heap) (l:Nat):Option (AV×Heap) :=
 match h[l]? with
 | some .hole=>some (.mp l,h.set l (.map []))
 | _=>none
def fillS (h:Heap) (l:Nat):Option (AV×Heap)→Option (AV×Heap)
 | some (.own _ n,[b])=>match h[l]? with
  | some .hole=>some (.own l n,h.set l b)
  | _=>none
 | _=>none
def stepA (C:Cfg) (ev:Operand→AV) (h:Heap) (l:Nat):Op→Option (AV×Heap)
 | .alloc t=>fill h l (zv C.P t)
 | .box _ x=>fill h l (some (ev x))
 | .makeMap _ none=>fillM h l
 | .makeSlice t n m=>fillS h l (makeSliceV C.P t [] (ev n) (ev m))
 | _=>none
def numA:List Oper→Nat
 | []=>0
 | o::r=>(if alo o.op=true then 1 else 0)+numA r
def plOf (n:Nat) (ops:List Oper) (i:Nat):Nat:=n+numA (ops.take i)
def nilOr (keep:Bool):AV:=bif keep then .nils else .rows []
mutual
def leaveG (sub:List (List AV)→Option (List (List AV))) (keep:Bool) (k:Nat) (h:Heap):AV→Option AV
 | .own l n=>match h[l]? with
  | some (.rows _ rs wr)=>if rs.length=n∧(k≤l∨wr=false) then (match sub rs with
   | some rs=>some (.rows rs)
   | none=>none) else none
  | _=>none
 | .nils=>some (nilOr keep)
 | .lit rs=>some (.rows rs)
 | .agg cs=>match leaveGL sub keep k h cs with
  | some cs=>some (.agg cs)
  | none=>none
 | .tup cs=>match leaveGL sub keep k h cs with
  | some cs=>some (.tup cs)
  | none=>none
 | .fn f cs=>match leaveGL sub keep k h cs with
  | some cs=>some (.fn f cs)
  | none=>none
 | .bnd f cs=>match leaveGL sub keep k h cs with
  | some cs=>some (.bnd f cs)
  | none=>none
 | .iface t a=>match leaveG sub keep k h a with
  | some a=>some (.iface t a)
  | none=>none
 | .ptr l o=>if l < k then some (.ptr l o) else none
 | .mp l=>if l < k then some (.mp l) else none
 | .tptr t l o=>if l < k then some (.tptr t l o) else none
 | .town _ _ _=>none
 | .vw l n a m=>if l < k then some (.vw l n a m) else match h[l]? with
  | some (.rows _ rs _)=>if rs.length=n∧a+m≤n then (match sub (cut rs a (a+m)) with
   | some rs=>some (.rows rs)
   | none=>none) else none
  | _=>none
 | .optr l n i o=>if l < k then some (.optr l n i o) else none
 | a=>some a
def leaveGL (sub:List (List AV)→Option (List (List AV))) (keep:Bool) (k:Nat) (h:Heap):List AV→Option (List AV)
 | []=>some []
 | a::r=>match leaveG sub keep k h a with
  | some a=>match leaveGL sub keep k h r with
   | some r=>some (a::r)
   | none=>none
  | none=>none
end
def leaveRows (f:List AV→Option (List AV)):List (List AV)→Option (List (List AV))
 | []=>some []
 | row::r=>match f row with
  | some row'=>if locsL row'=[]∧(row'.length=row.length∧singles row'=true) then (match leaveRows f r with
   | some r=>some (row'::r)
   | none=>none) else none
  | none=>none
def orRows (f:List (List AV)→Option (List (List AV))) (rs:List (List AV)):Option (List (List AV)):=if locsR rs=[] then some rs else f rs
def leave1 (keep:Bool) (k:Nat) (h:Heap):List (List AV)→Option (List (List AV)):=orRows fun _=>none
def leave2 (keep:Bool) (k:Nat) (h:Heap):List (List AV)→Option (List (List AV)):=orRows (leaveRows (leaveGL (leave1 keep k h) keep k h))
def leave3 (keep:Bool) (k:Nat) (h:Heap):List (List AV)→Option (List (List AV)):=orRows (leaveRows (leaveGL (leave2 keep k h) keep k h))
def leave (keep:Bool) (k:Nat) (h:Heap):AV→Option AV:=leaveG (leave3 keep k h) keep k h
def leaveL (keep:Bool) (k:Nat) (h:Heap):List AV→Option (List AV):=leaveGL (leave3 keep k h) keep k h
def lvR:Res→Res
 | some (r,[])=>some (r,[])
 | some (r,b::hs)=>match leave false 0 (b::hs) r with
  | some a=>some (a,[])
  | none=>none
 | none=>none
def lv (F:Tk→Res):Tk→Res
 | .call g args []=>lvR (F (.call g args []))
 | t=>F t
def Cfg.shut (C:Cfg):Cfg:={ C with nlA:=fun f=>((C.nlA f).1,if (C.nlA f).2=2 then 0 else (C.nlA f).2) }
theorem shut_no (C:Cfg):∀ g,(C.shut.nlA g).2≠2:=fun g=>by
 show (if (C.nlA g).2=2 then 0 else (C.nlA g).2)≠2
 split
 ·decide
 ·assumption
def isWd (dy:List (Nat×Nat)) (i:Nat):Op→Bool
 | .call _=>dy.any fun p=>p.1==999&&p.2==i
 | _=>false
def stepW (F:Tk→Res) (n:Nat) (ev:Operand→AV) (h:Heap):Op→Option (AV×Heap)
 | .call c=>match c.callee with
  | .value f=>match ev f with
   | .fn g caps=>callIn F g h (List.range n) (evs ev c.args.toList++caps)
   | _=>none
  | _=>none
 | _=>none
def stepQ (C:Cfg) (F:Tk→Res) (dy:List (Nat×Nat)) (pl:Nat→Nat) (i:Nat) (ev:Operand→AV) (h:Heap) (o:Op):Option (AV×Heap) :=
 if isQ dy i o=true then val h (stepD C (lv F) ev h o) else if alo o=true then stepA C ev h (pl i) o else if isWd dy i o=true then stepW F (pl 0) ev h o else stepO C.shut F ev h o
def touchesCall (h:Heap) (args:List AV):AV→List Nat
 | .fn _ caps=>match purifyL h (args++caps) with
  | some _=>[]
  | none=>match convL h (args++caps) with
   | some l=>reach h 100 (locsL l) []
   | none=>[]
 | .bnd _ fs=>match purifyL h (fs++args) with
  | some _=>[]
  | none=>match convL h (fs++args) with
   | some l=>reach h 100 (locsL l) []
   | none=>[]
 | _=>[]
def touches (ev:Operand→AV) (h:Heap):Op→List Nat
 | .store _ a _=>locs (ev a)
 | .mapUpdate _ m _ _=>locs (ev m)
 | .insert _ m _ _=>locs (ev m)
 | .call c=>match c.callee with
  | .value f=>touchesCall h (evs ev c.args.toList) (ev f)
  | _=>locsL (evs ev c.args.toList)
 | _=>[]
def touchesQ (n:Nat) (dy:List (Nat×Nat)) (i:Nat) (ev:Operand→AV) (h:Heap) (o:Op):List Nat :=
 if isQ dy i o=true then [] else if alo o=true then [] else if isWd dy i o=true then List.range n else touches ev h o
def eqK:IntKind→IntKind→Bool:=fun a b=>decide (a=b)
mutual
def eqA:AV→AV→Bool
 | .int k a,.int k' b=>eqK k k'&&a==b
 | .bool a,.bool b=>a==b
 | .str a,.str b=>a==b
 | .nilp,.nilp | .nilf,.nilf | .nili,.nili | .nilm,.nilm | .nils,.nils=>true
 | .emp a,.emp b=>a==b
 | .rows a,.rows b=>eqR a b
 | .lit a,.lit b=>eqR a b
 | .rptr a o,.rptr b o'=>eqL a b&&o==o'
 | .agg a,.agg b=>eqL a b
 | .tup a,.tup b=>eqL a b
 | .fn f a,.fn g b=>f==g&&eqL a b
 | .bnd f a,.bnd g b=>f==g&&eqL a b
 | .iface t a,.iface u b=>t==u&&eqA a b
 | .ptr l o,.ptr l' o'=>l==l'&&o==o'
 | .own l n,.own l' n'=>l==l'&&n==n'
 | .optr l n i o,.optr l' n' i' o'=>l==l'&&(n==n'&&(i==i'&&o==o'))
 | .mp l,.mp l'=>l==l'
 | .tptr t l o,.tptr t' l' o'=>t==t'&&(l==l'&&o==o')
 | .town t l n,.town t' l' n'=>t==t'&&(l==l'&&n==n')
 | .vw l n a m,.vw l' n' a' m'=>(l==l'&&n==n')&&(a==a'&&m==m')
 | _,_=>false
def eqL:List AV→List AV→Bool
 | [],[]=>true
 | a::r,b::s=>eqA a b&&eqL r s
 | _,_=>false
def eqR:List (List AV)→List (List AV)→Bool
 | [],[]=>true
 | a::r,b::s=>eqL a b&&eqR r s
 | _,_=>false
end
def eqE:List (AV×AV)→List (AV×AV)→Bool
 | [],[]=>true
 | a::r,b::s=>eqA a.1 b.1&&(eqA a.2 b.2&&eqE r s)
 | _,_=>false
def eqB:Option Blk→Option Blk→Bool
 | some (.cells a),some (.cells b)=>eqL a b
 | some (.rows z a w),some (.rows z' b w')=>z==z'&&(w==w'&&eqR a b)
 | some (.map a),some (.map b)=>eqE a b
 | some .hole,some .hole=>true
 | _,_=>false
def chg (h h':Heap):List Nat→List Nat
 | []=>[]
 | l::r=>if eqB h[l]? h'[l]? = true then chg h h' r else l::chg h h' r
def clears (dy:List (Nat×Nat)) (i:Nat) (fr:Fr) (w:List Nat):Bool :=
 match dy with
 | []=>true
 | (j,s)::r=>(if j=i then !(locs (get fr s)).any (fun l=>w.contains l) else true)&&clears r i fr w
def aOpsD (C:Cfg) (F:Tk→Res) (dy:List (Nat×Nat)) (pl:Nat→Nat) (all:List Oper):Nat→List Oper→Fr→Heap→Option (Fr×Heap×List (Nat×List Nat))
 | _,[],fr,h=>some (fr,h,[])
 | i,o::rest,fr,h =>
  let go:Option (Fr×Heap×List (Nat×List Nat)):=match stepQ C F dy pl i (ev fr) h o.op with
   | some (v,h')=>match aOpsD C F dy pl all (i+1) rest (put fr o.dst v) h' with
    | some (fr',h'',l)=>some (fr',h'',(i,chg h h' (touchesQ (pl 0) dy i (ev fr) h o.op))::l)
    | none=>none
   | none=>none
  match o.guard with
  | none=>go
  | some (j,want)=>match getO fr (slotOf all j) with
   | .bool b=>if b=want then go else aOpsD C F dy pl all (i+1) rest (put fr o.dst (.tup [])) h
   | .tup []=>aOpsD C F dy pl all (i+1) rest (put fr o.dst (.tup [])) h
   | _=>none
def clearAll (dy:List (Nat×Nat)) (fr:Fr):List (Nat×List Nat)→Bool
 | []=>true
 | (i,w)::r=>clears dy i fr w&&clearAll dy fr r
def shutD (dy:List (Nat×Nat)):Option (Fr×Heap×List (Nat×List Nat))→Option (Fr×Heap)
 | some (fr,h,l)=>if clearAll dy fr l then some (fr,h) else none
 | none=>none
def unwind (id:Nat):List It→Option (Nat×List It)
 | []=>none
 | .blk j n::ks=>if j=id then some (n,ks) else unwind id ks
 | _::ks=>unwind id ks
def restr (fr:Fr):List Nat→Fr
 | []=>[]
 | i::r=>(i,get fr i)::restr fr r
def owned (fr:Fr) (h:Heap):List (Nat×Option Nat×Nat×Bool)→Fr×Heap
 | []=>(fr,h)
 | (i,some d,z,q)::r=>match get fr i with
  | .ptr l o=>match h[l]? with
   | some (.cells cs)=>match cs[o+d]? with
    | some .nils=>owned fr ((h++[Blk.rows z [] q]).set l (.cells (cs.set (o+d) (.own h.length 0)))) r
    | _=>owned fr h r
   | _=>owned fr h r
  | _=>owned fr h r
 | (i,none,z,q)::r=>match get fr i with
  | .nils=>owned ((i,.own h.length 0)::fr) (h++[.rows z [] q]) r
  | _=>owned fr h r
def frz (k:Nat) (live:List Nat):List Nat→Fr→Heap→Option (Fr×Heap)
 | [],fr,h=>some (fr,h)
 | i::r,fr,h=>match get fr i with
  | .own l n=>match h[l]? with
   | some (.rows _ rs _)=>if rs.length=n∧k≤l∧locsR rs=[]∧(locsF (restr ((i,.rows rs)::fr) live)).contains l=false∧(locsH h).contains l=false then frz k live r (restr ((i,.rows rs)::fr) live) (h.set l .hole) else none
   | _=>none
  | .nils=>frz k live r (restr ((i,.rows [])::fr) live) h
  | .lit rs=>frz k live r (restr ((i,.rows rs)::fr) live) h
  | _=>frz k live r fr h
def resV (P:Program) (fr:Fr) (h:Heap):ResultVar→Option AV
 | .tmp t=>some (get fr t)
 | .cell a t=>aLoad P t (get fr a) h
def resL (P:Program) (fr:Fr) (h:Heap):List ResultVar→Option (List AV)
 | []=>some []
 | r::rs=>match resV P fr h r with
  | some v=>match resL P fr h rs with
   | some vs=>some (v::vs)
   | none=>none
  | none=>none
def tupOf:List AV→AV
 | [v]=>v
 | vs=>.tup vs
def freshOf (k:Nat) (h:Heap) (r:AV):Res :=
 match r with
 | .own l n=>match h[l]? with
  | some (.rows z rs wr)=>if rs.length=n∧k≤l∧locsR rs=[] then some (.own k n,h.take k++[.rows z rs wr]) else none
  | _=>none
 | .lit rs=>some (.lit rs,h.take k)
 | .nils=>some (.own k 0,h.take k++[.rows 0 [] false])
 | _=>none
def freshZ (z:Nat) (k:Nat) (h:Heap) (r:AV):Res :=
 match r with
 | .nils=>some (.own k 0,h.take k++[.rows z [] false])
 | r=>freshOf k h r
def leaveR (k:Nat) (h:Heap):Option AV→Res
 | some a=>some (a,h.take k)
 | none=>none
def guardU (k:Nat) (h:Heap) (r:Res):Res:=if under k (locsH (h.take k)) then r else none
def settleBy (h:Heap) (ls:List Nat) (r:AV):Res:=match sub h (posOf ls) ls with
 | some hs=>if under ls.length (locsH hs)=true∧under ls.length ((locs r).map (posOf ls))=true then some (ren (posOf ls) r,hs) else none
 | none=>none
def settle (k:Nat) (h:Heap) (r:AV):Res:=settleBy h (reach h 1000 (locsH (h.take k)++locs r) (List.range k)) r
def unview (h:Heap):AV→AV×Heap
 | .vw l n 0 m=>match h[l]? with
  | some (.rows z rs true)=>if rs.length=n∧m≤n∧0 < m then (.own h.length m,h.set l (.rows z (List.replicate (n+1) []) true)++[.rows z (rs.take m) true]) else if m=0 then (.rows [],h) else (.vw l n 0 m,h)
  | _=>(.vw l n 0 m,h)
 | v=>(v,h)
def leaving (mode:Nat) (k:Nat) (h:Heap):Option (List AV)→Res
 | some vs=>match mode with
   | 0=>guardU k h (leaveR k h (leave false k h (tupOf vs)))
   | 1=>guardU k h (freshOf k h (tupOf vs))
   | 2=>guardU k h (leaveR k h (leave true k h (tupOf vs)))
   | 3=>settle k h (tupOf vs)
   | 5=>some (tupOf vs,h)
   | 4=>settle k (unview h (tupOf vs)).2 (unview h (tupOf vs)).1
   | z=>guardU k h (freshZ (z - 10) k h (tupOf vs))
 | none=>none
def retOf (C:Cfg) (f:FuncId) (k:Nat) (fr:Fr) (h:Heap):Res :=
 match C.P.funcs[f]? with
 | some fn=>leaving (C.ret f) k h (resL C.P fr h fn.results.toList)
 | none=>none
def entry (n:Nat):List AV→Fr
 | []=>[]
 | a::r=>(n,a)::entry (n+1) r
def onReg (F:Tk→Res) (f:FuncId) (k:Nat) (ks:List It):Option (Fr×Heap)→Res
 | some (fr,h)=>F (.run f k ks fr h)
 | none=>none
def frzC (k:Nat) (fr:Fr) (i d:Nat) (h:Heap):Heap :=
 match get fr i with
 | .ptr l0 o=>match h[l0]? with
  | some (.cells cs)=>match cs[o+d]? with
   | some (.own l n)=>match h[l]? with
    | some (.rows _ rs _)=>if rs.length=n∧k≤l∧locsR rs=[]∧(locsF fr).contains l=false∧(locsH (h.set l0 (.cells (cs.set (o+d) (.rows rs))))).contains l=false then (h.set l .hole).set l0 (.cells (cs.set (o+d) (.rows rs))) else h
    | _=>h
   | _=>h
  | _=>h
 | _=>h
def ownAt (fr:Fr) (h:Heap) (i d:Nat):Option (Nat×Nat) :=
 match get fr i with
 | .ptr l0 o=>match h[l0]? with
  | some (.cells cs)=>match cs[o+d]? with
   | some (.own l n)=>some (l,n)
   | _=>none
  | _=>none
 | _=>none
def frzR (k:Nat) (fr:Fr) (h:Heap) (j c:Nat):Option (Nat×Nat)→Heap
 | some (l,n)=>if j < n then (match h[l]? with
  | some (.rows z rs wr)=>match rs[n - 1 - j]? with
   | some row=>match row[c]? with
    | some (.own l' n')=>match h[l']? with
     | some (.rows _ ts _)=>if ts.length=n'∧k≤l'∧locsR ts=[]∧(locsF fr).contains l'=false∧(locsH (h.set l (.rows z (rs.set (n - 1 - j) (row.set c (.rows ts))) wr))).contains l'=false then (h.set l' .hole).set l (.rows z (rs.set (n - 1 - j) (row.set c (.rows ts))) wr) else h
     | _=>h
    | some .nils=>h.set l (.rows z (rs.set (n - 1 - j) (row.set c (.rows []))) wr)
    | _=>h
   | none=>h
  | _=>h) else h
 | none=>h
def newR (h:Heap) (c z:Nat) (q:Bool):Option (Nat×Nat)→Heap
 | some (l,n)=>match h[l]? with
  | some (.rows y rs wr)=>match rs[n - 1]? with
   | some row=>match row[c]? with
    | some .nils=>(h++[Blk.rows z [] q]).set l (.rows y (rs.set (n - 1) (row.set c (.own h.length 0))) wr)
    | _=>h
   | none=>h
  | _=>h
 | none=>h
def renF (σ:Nat→Nat):Fr→Fr
 | []=>[]
 | (i,v)::r=>(i,ren σ v)::renF σ r
def tidyBy (fr:Fr) (h:Heap) (ls:List Nat):Fr×Heap:=match sub h (posOf ls) ls with
 | some hs=>if under ls.length (locsH hs)=true∧under ls.length ((locsF fr).map (posOf ls))=true then (renF (posOf ls) fr,hs) else (fr,h)
 | none=>(fr,h)
def tidy (k:Nat) (fr:Fr) (h:Heap):Fr×Heap:=tidyBy fr h (reach h 1000 (locsH (h.take k)++locsF fr) (List.range k))
def isF:AV→Bool
 | .bool b=>!b
 | _=>false
def lastN (h:Heap) (c:Nat):Option (Nat×Nat)→Bool
 | some (l,n)=>match h[l]? with
  | some (.rows _ rs _)=>match rs[n - 1]? with
   | some row=>match row[c]? with
    | some .nils=>true
    | _=>false
   | none=>false
  | _=>false
 | none=>false
def isT:AV→Bool
 | .bool b=>b
 | _=>false
def frzO (k:Nat) (fr:Fr) (h:Heap) (i c:Nat):Heap :=
 match get fr i with
 | .optr l n p o=>frzR k fr h (n - 1 - p) (o+c) (some (l,n))
 | _=>h
def ownIn (h:Heap) (j c:Nat):Option (Nat×Nat)→Option (Nat×Nat)
 | some (l,n)=>match h[l]? with
  | some (.rows _ rs _)=>match rs[n - 1 - j]? with
   | some row=>match row[c]? with
    | some (.own l' n')=>some (l',n')
    | _=>none
   | none=>none
  | _=>none
 | none=>none
def frzI (k:Nat) (fr:Fr) (c:Nat) (x:Option (Nat×Nat)):Nat→Heap→Heap
 | 0,h=>h
 | q+1,h=>frzI k fr c x q (frzR k fr h q c x)
def lenO:Option (Nat×Nat)→Nat
 | some (_,n)=>n
 | none=>0
def pops (k:Nat):List Pop→Fr→Heap→Fr×Heap
 | [],fr,h=>(fr,h)
 | .cell i d::r,fr,h=>pops k r fr (frzC k fr i d h)
 | .row i d j c::r,fr,h=>pops k r fr (frzR k fr h j c (ownAt fr h i d))
 | .new i d c z q::r,fr,h=>pops k r fr (newR h c z q (ownAt fr h i d))
 | .tidy::r,fr,h=>pops k r (tidy k fr h).1 (tidy k fr h).2
 | .whenF i::r,fr,h=>if isF (get fr i)=true then pops k r fr h else (fr,h)
 | .whenN i d c::r,fr,h=>if lastN h c (ownAt fr h i d)=true then pops k r fr h else (fr,h)
 | .whenT i::r,fr,h=>if isT (get fr i)=true then pops k r fr h else (fr,h)
 | .opt i c::r,fr,h=>pops k r fr (frzO k fr h i c)
 | .keep l::r,fr,h=>pops k r (restr fr l) h
 | .inner i d j c c2::r,fr,h=>pops k r fr (frzI k fr c2 (ownIn h j c (ownAt fr h i d)) (lenO (ownIn h j c (ownAt fr h i d))) h)
def outOf (F:Tk→Res) (f:FuncId) (k:Nat) (ks:List It) (n:Nat) (fr:Fr) (h:Heap):Option (List Nat)→Res
 | none=>F (.run f k ks fr h)
 | some l=>if decide (k≤n)&&(under n (locsF (restr fr l))&&under n (locsH (h.take n))) then F (.run f k ks (restr fr l) (h.take n)) else F (.run f k ks (restr fr l) h)
def pstOf (id:Nat) (ks:List It):List (Nat×List Nat×List Pop)→List It
 | []=>ks
 | (j,l,c)::r=>if j=id then .pst l c::ks else pstOf id ks r
def onUnw (F:Tk→Res) (f:FuncId) (k:Nat) (fr:Fr) (h:Heap) (out:Option (List Nat)):Option (Nat×List It)→Res
 | some (n,ks)=>outOf F f k ks n fr h out
 | none=>none
def onTurn (F:Tk→Res) (f:FuncId) (k:Nat) (ks:List It) (c:Code) (live:List Nat×List Nat) (n:Nat):Option (Fr×Heap)→Res
 | some (fr,h)=>if decide (k≤n)&&(under n (locsF fr)&&under n (locsH (h.take n))) then F (.run f k (.code c::.lp c (some live) n::ks) fr (h.take n)) else F (.run f k (.code c::.lp c (some live) n::ks) fr h)
 | none=>none
def onRound (F:Tk→Res) (f:FuncId) (k:Nat) (ks:List It) (c:Code) (live:List Nat×List Nat) (n:Nat) (fr:Fr) (h:Heap):Res :=
 onTurn F f k ks c live n (frz k live.1 live.2 (restr fr live.1) h)
def onLoop (F:Tk→Res) (f:FuncId) (k:Nat) (ks:List It) (id:Nat) (c:Code) (live:List Nat×List Nat):Option (Fr×Heap)→Res
 | some (fr,h)=>F (.run f k (.code c::.lp c (some live) h.length::.blk id h.length::ks) fr h)
 | none=>none
def onBlock (C:Cfg) (F:Tk→Res) (f:FuncId) (k:Nat) (ks:List It) (id:Nat) (fr:Fr) (h:Heap) (c:Code):Option (List Nat×List (Nat×Option Nat×Nat×Bool)×List Nat)→Res
 | some (live,os,fz)=>match c with
  | .loop b=>onLoop F f k ks id b (live,fz) (frz k live fz (restr (owned fr h os).1 live) (owned fr h os).2)
  | c=>F (.run f k (.code c::.blk id h.length::ks) fr h)
 | none=>F (.run f k (.code c::.blk id h.length::ks) fr h)
def onCond (F:Tk→Res) (f:FuncId) (k:Nat) (ks:List It) (a b:Code) (fr:Fr) (h:Heap) (v:AV):Res :=
 match v with
 | .bool t=>if t=true then F (.run f k (.code a::ks) fr h) else F (.run f k (.code b::ks) fr h)
 | _=>none
def ownedB (fr:Fr) (h:Heap):List (Nat×Nat×TypeId)→Heap
 | []=>h
 | (i,d,t)::r=>match get fr i with
  | .tptr _ l o=>match h[l]? with
   | some (.cells cs)=>match cs[o+d]? with
    | some .nils=>ownedB fr ((h++[Blk.rows 1 [] false]).set l (.cells (cs.set (o+d) (.town t h.length 0)))) r
    | _=>ownedB fr h r
   | _=>ownedB fr h r
  | _=>ownedB fr h r
def enter (F:Tk→Res) (f:FuncId) (args:List AV) (h:Heap) (os:List (Nat×Nat×TypeId)):Option Func→Res
 | some fn=>match fn.body with
  | some c=>F (.run f (ownedB (entry 0 args) h os).length [.code c] (entry 0 args) (ownedB (entry 0 args) h os))
  | none=>none
 | none=>none
def regionV (C:Cfg) (F:Tk→Res) (f:FuncId) (id:Nat) (ops:List Oper) (draw:Bool) (fr:Fr) (h:Heap):Option (Fr×Heap) :=
 match draw with
 | false=>aOps C F ops ops fr h
 | true=>shutD (C.dyn f id) (aOpsD C F (C.dyn f id) (plOf h.length ops) ops 0 ops fr (h++List.replicate (numA ops) .hole))
def stepT (C:Cfg) (F:Tk→Res):Tk→Res
 | .call f args h=>match C.prim f args with
  | some v=>(match h with
   | []=>some (v,[])
   | _=>none)
  | none=>match C.primH f args h with
   | some r=>some r
   | none=>if C.good f then enter F f args h (C.ownA f) C.P.funcs[f]? else none
 | .run f k [] fr h=>retOf C f k fr h
 | .run f k (.blk id n::ks) fr h=>outOf F f k ks n fr h (C.out f id)
 | .run f k (.pst l c::ks) fr h=>F (.run f k ks (pops k c (restr fr l) h).1 (pops k c (restr fr l) h).2)
 | .run f k (.lp c none n::ks) fr h=>F (.run f k (.code c::.lp c none n::ks) fr h)
 | .run f k (.lp c (some live) n::ks) fr h=>onRound F f k ks c live n fr h
 | .run f k (.code c::ks) fr h=>match c with
  | .skip=>F (.run f k ks fr h)
  | .seq a b=>F (.run f k (.code a::.code b::ks) fr h)
  | .region id ops draw=>onReg F f k (pstOf id ks (C.post f)) (regionV C F f id ops.toList draw fr h)
  | .cond c a b=>onCond F f k ks a b fr h (ev fr c)
  | .block id c=>onBlock C F f k ks id fr h c (C.live f id)
  | .loop c=>F (.run f k (.code c::.lp c none 0::ks) fr h)
  | .exit id=>onUnw F f k fr h (C.out f id) (unwind id ks)
  | .ret=>retOf C f k fr h
  | _=>none
def runN (C:Cfg):Nat→Tk→Res
 | 0,_=>none
 | n+1,t=>stepT C (runN C n) t
def dfrOf:List Oper→Option (Nat×FuncId×Array Operand)
 | [o1,o2]=>match o1.dst,o1.op,o1.guard,o2.dst,o2.op,o2.guard with
  | some s,.makeFunc (.func g) first caps,none,none,.defer c,none=>(match c.callee with
   | .value (.tmp s')=>if s=s'∧first=#[]∧c.args=#[] then some (s,g,caps) else none
   | _=>none)
  | _,_,_,_,_,_=>none
 | _=>none
def runDfr (C:Cfg) (F:Tk→Res) (g:FuncId) (caps:List AV) (h:Heap):Option Func→Option Heap
 | some fn=>match fn.body with
  | some c=>match F (.run g h.length [.code c] (entry 0 caps) h) with
   | some (_,h')=>some h'
   | none=>none
  | none=>none
 | none=>none
def doDfr (C:Cfg) (no:FuncId→Bool) (F:Tk→Res) (h:Heap):Option AV→Option Heap
 | none=>some h
 | some (.fn g caps)=>if no g=true∧caps.length=2 then some h else if C.good g=true then runDfr C F g caps h C.P.funcs[g]? else none
 | some _=>none
def retP (C:Cfg) (f:FuncId) (k:Nat) (fr:Fr):Option Heap→Res
 | some h=>retOf C f k fr h
 | none=>none
def closed (draw:Bool) (ops:List Oper):Option (Nat×FuncId×Array Operand):=match draw with
 | false=>dfrOf ops
 | true=>none
def onRegP (F:Tk→Res) (f:FuncId) (k:Nat) (ks:List It):Option (Fr×Heap)→Res
 | some (fr,h)=>F (.run f k ks fr h)
 | none=>none
def stepF (C:Cfg) (no:FuncId→Bool) (F:Option AV→Tk→Res) (p:Option AV) (f:FuncId) (k:Nat) (ks:List It) (fr:Fr) (h:Heap):Res :=
 match ks with
 | []=>retP C f k fr (doDfr C no (F none) h p)
 | .blk _ _::ks=>F p (.run f k ks fr h)
 | .lp c none n::ks=>F p (.run f k (.code c::.lp c none n::ks) fr h)
 | .code c::ks=>match c with
  | .skip=>F p (.run f k ks fr h)
  | .seq a b=>F p (.run f k (.code a::.code b::ks) fr h)
  | .region id ops draw=>match closed draw ops.toList with
   | some (s,g,caps)=>(match p with
    | none=>F (some (.fn g (evs (ev fr) caps.toList))) (.run f k ks (put fr (some s) (.fn g (evs (ev fr) caps.toList))) h)
    | some _=>none)
   | none=>onRegP (F p) f k ks (regionV C (F none) f id ops.toList draw fr h)
  | .cond c a b=>(match ev fr c with
   | .bool t=>F p (.run f k (.code (if t=true then a else b)::ks) fr h)
   | _=>none)
  | .block id c=>F p (.run f k (.code c::.blk id h.length::ks) fr h)
  | .loop c=>F p (.run f k (.code c::.lp c none 0::ks) fr h)
  | .exit id=>(match unwind id ks with
   | some (_,ks)=>F p (.run f k ks fr h)
   | none=>none)
  | .ret=>retP C f k fr (doDfr C no (F none) h p)
  | _=>none
 | _=>none
def stepP (C:Cfg) (D no:FuncId→Bool) (F:Option AV→Tk→Res):Option AV→Tk→Res
 | p,.run f k ks fr h=>match D f with
  | true=>stepF C no F p f k ks fr h
  | false=>(match p with
   | none=>stepT C (F none) (.run f k ks fr h)
   | some _=>none)
 | none,.call f args h=>stepT C (F none) (.call f args h)
 | some _,.call _ _ _=>none
def runP (C:Cfg) (D no:FuncId→Bool):Nat→Option AV→Tk→Res
 | 0,_,_=>none
 | n+1,p,t=>stepP C D no (runP C D no n) p t
section
variable {Bs:World→Prop}
def Blk.open_:Blk→Nat→Prop
 | .cells _,_=>True
 | .rows z rs wr,o=>wr=true∨z*rs.length≤o
 | .hole,_=>False
 | .map _,_=>True
structure Mp (Bs:World→Prop) where
 map:Nat→Option Nat
 out:Nat→Nat→Prop
 still:Nat→Prop
instance:CoeFun (Mp Bs) (fun _=>Nat→Option Nat):=⟨fun μ=>μ.map⟩
def Mut (μ:Mp Bs) (h:Heap) (b o:Nat):Prop:=μ.out b o∨∃ l k,h[l]? = some k∧μ l=some b∧k.open_ o
mutual
/-- A value that hangs on memory which nothing writes. -/
def PRep (M:Nat→Nat→Prop) (w:World):AV→Value→Prop
 | .int k n,v=>v=.int k n
 | .bool b,v=>v=.bool b
 | .str s,v=>v=.string ⟨s.toArray⟩
 | .nilp,v=>v=.pointer none
 | .nilf,v=>v=.nilFunc
 | .nili,v=>v=.nilIface
 | .emp b,v=>∃ base cap,v=.slice base 0 cap∧base.isNone=b
 | .nilm,v=>v=.map none
 | .nils,v=>v=.slice none 0 0
 | .rows rs,v=>∃ base cap,v=.slice base rs.length cap∧rs.length≤cap∧(rs=[]∨∃ b o z,base=some ⟨b,o,none⟩∧PRows M w z b rs o)
 | .lit rs,v=>∃ base,v=.slice base rs.length rs.length∧(rs=[]∨∃ b o z,base=some ⟨b,o,none⟩∧PRows M w z b rs o)
 | .rptr row o,v=>∃ b p,v=.pointer (some ⟨b,p+o,none⟩)∧PMem M w b row p
 | .agg cs,v=>∃ vs:List Value,v=.agg vs.toArray∧PRepL M w cs vs
 | .tup cs,v=>∃ vs:List Value,v=.tuple vs.toArray∧PRepL M w cs vs
 | .fn f cs,v=>∃ vs:List Value,v=.func (.func f) #[] vs.toArray∧PRepL M w cs vs
 | .bnd f cs,v=>∃ vs:List Value,v=.func (.func f) vs.toArray #[]∧PRepL M w cs vs
 | .iface t a,v=>∃ x,v=.iface t x∧PRep M w a x
 | .ptr _ _,_=>False
 | .own _ _,_=>False
 | .optr _ _ _ _,_=>False
 | .mp _,_=>False
 | .tptr _ _ _,_=>False
 | .town _ _ _,_=>False
 | .vw _ _ _ _,_=>False
 | .any,_=>True
def PRepL (M:Nat→Nat→Prop) (w:World):List AV→List Value→Prop
 | [],vs=>vs=[]
 | a::r,vs=>∃ v vr,vs=v::vr∧PRep M w a v∧PRepL M w r vr
def PMem (M:Nat→Nat→Prop) (w:World) (b:Nat):List AV→Nat→Prop
 | [],_=>True
 | a::r,o=>(∃ v,w.cell? ⟨b,o,none⟩=some v∧¬M b o∧PRep M w a v)∧PMem M w b r (o+1)
def PRows (M:Nat→Nat→Prop) (w:World) (z b:Nat):List (List AV)→Nat→Prop
 | [],_=>True
 | row::r,o=>row.length=z∧singles row=true∧PMem M w b row o∧PRows M w z b r (o+z)
end
def Keeps (M:Nat→Nat→Prop) (w:World) (M':Nat→Nat→Prop) (w':World):Prop :=
 ∀ b o v,w.cell? ⟨b,o,none⟩=some v→¬M b o→w'.cell? ⟨b,o,none⟩=some v∧¬M' b o
end
section
variable {Bs:World→Prop}
variable {M M':Nat→Nat→Prop} {w w':World}
mutual
theorem PRep.keep (hk:Keeps M w M' w'):∀ (a:AV) (v:Value),PRep M w a v→PRep M' w' a v
 | .int _ _,_,h=>h
 | .bool _,_,h=>h
 | .str _,_,h=>h
 | .nilp,_,h=>h
 | .nilf,_,h=>h
 | .nili,_,h=>h
 | .emp _,_,h=>h
 | .nilm,_,h=>h
 | .nils,_,h=>h
 | .rows rs,_,h=>by
  obtain ⟨base,cap,hv,hc,h⟩:=h
  refine ⟨base,cap,hv,hc,?_⟩
  rcases h with h | ⟨b,o,z,hb,h⟩
  ·exact .inl h
  ·exact .inr ⟨b,o,z,hb,PRows.keep hk z b rs o h⟩
 | .lit rs,_,h=>by
  obtain ⟨base,hv,h⟩:=h
  refine ⟨base,hv,?_⟩
  rcases h with h | ⟨b,o,z,hb,h⟩
  ·exact .inl h
  ·exact .inr ⟨b,o,z,hb,PRows.keep hk z b rs o h⟩
 | .rptr row _,_,h=>by
  obtain ⟨b,p,hv,h⟩:=h
  exact ⟨b,p,hv,PMem.keep hk b row p h⟩
 | .agg cs,_,h=>by
  obtain ⟨vs,hv,h⟩:=h
  exact ⟨vs,hv,PRepL.keep hk cs vs h⟩
 | .tup cs,_,h=>by
  obtain ⟨vs,hv,h⟩:=h
  exact ⟨vs,hv,PRepL.keep hk cs vs h⟩
 | .fn _ cs,_,h=>by
  obtain ⟨vs,hv,h⟩:=h
  exact ⟨vs,hv,PRepL.keep hk cs vs h⟩
 | .bnd _ cs,_,h=>by
  obtain ⟨vs,hv,h⟩:=h
  exact ⟨vs,hv,PRepL.keep hk cs vs h⟩
 | .iface _ a,_,h=>by
  obtain ⟨x,hv,h⟩:=h
  exact ⟨x,hv,PRep.keep hk a x h⟩
 | .ptr _ _,_,h=>h
 | .own _ _,_,h=>h
 | .optr _ _ _ _,_,h=>h
 | .mp _,_,h=>h
 | .tptr _ _ _,_,h=>h
 | .town _ _ _,_,h=>h
 | .vw _ _ _ _,_,h=>h
 | .any,_,h=>h
theorem PRepL.keep (hk:Keeps M w M' w'):∀ (as_:List AV) (vs:List Value),PRepL M w as_ vs→PRepL M' w' as_ vs
 | [],_,h=>h
 | a::r,_,h=>by
  obtain ⟨v,vr,hv,h1,h2⟩:=h
  exact ⟨v,vr,hv,PRep.keep hk a v h1,PRepL.keep hk r vr h2⟩
theorem PMem.keep (hk:Keeps M w M' w') (b:Nat):∀ (row:List AV) (o:Nat),PMem M w b row o→PMem M' w' b row o
 | [],_,h=>h
 | a::r,o,h=>by
  obtain ⟨⟨v,hc,hm,h1⟩,h2⟩:=h
  obtain ⟨hc',hm'⟩:=hk b o v hc hm
  exact ⟨⟨v,hc',hm',PRep.keep hk a v h1⟩,PMem.keep hk b r (o+1) h2⟩
theorem PRows.keep (hk:Keeps M w M' w') (z b:Nat):∀ (rs:List (List AV)) (o:Nat),PRows M w z b rs o→PRows M' w' z b rs o
 | [],_,h=>h
 | row::r,o,h=>by
  obtain ⟨h0,hs,h1,h2⟩:=h
  exact ⟨h0,hs,PMem.keep hk b row o h1,PRows.keep hk z b r (o+z) h2⟩
end
end
section
variable {Bs:World→Prop}
def SomeRow (w:World) (b:Nat) (vs:Array Value) (T:TypeId):Prop:=∃ fz,w.heap[b]? = some (.cells vs T fz)
def RowAt (w:World) (b:Nat) (vs:Array Value) (T:TypeId) (wr:Bool) (m:Nat):Prop:=∃ fz:Nat×Nat,w.heap[b]? = some (.cells vs T fz)∧(fz=(0,0)∨(wr=false∧fz.2≤m))
theorem SomeRow.eq {w w':World} {b:Nat} {vs:Array Value} {T:TypeId} (h:SomeRow w b vs T) (e:w'.heap[b]? = w.heap[b]?):SomeRow w' b vs T:=by
 obtain ⟨fz,h⟩:=h
 exact ⟨fz,e.trans h⟩
theorem RowAt.eq {w w':World} {b:Nat} {vs:Array Value} {T:TypeId} {wr:Bool} {m:Nat} (h:RowAt w b vs T wr m) (e:w'.heap[b]? = w.heap[b]?):RowAt w' b vs T wr m:=by
 obtain ⟨fz,h,hf⟩:=h
 exact ⟨fz,e.trans h,hf⟩
theorem SomeRow.lt {w:World} {b:Nat} {vs:Array Value} {T:TypeId} (h:SomeRow w b vs T):b < w.heap.size:=by
 obtain ⟨fz,h⟩:=h
 exact (Array.getElem?_eq_some_iff.1 h).1
theorem RowAt.lt {w:World} {b:Nat} {vs:Array Value} {T:TypeId} {wr:Bool} {m:Nat} (h:RowAt w b vs T wr m):b < w.heap.size:=by
 obtain ⟨fz,h,_⟩:=h
 exact (Array.getElem?_eq_some_iff.1 h).1
theorem RowAt.free {w:World} {b:Nat} {vs:Array Value} {T:TypeId} {wr:Bool} {m:Nat} (h:w.heap[b]? = some (.cells vs T (0,0))):RowAt w b vs T wr m:=⟨_,h,.inl rfl⟩
def OwnRep (μ:Mp Bs) (h:Heap) (w:World) (l n:Nat) (v:Value):Prop :=
 ∃ z rs wr base cap,h[l]? = some (.rows z rs wr)∧n≤rs.length∧v=.slice base n cap∧(n=rs.length→n≤cap∧(n=0→cap=0) ∧
  (cap=0∨∃ b vs T,base=some ⟨b,0,none⟩∧μ l=some b∧SomeRow w b vs T∧cap*z≤vs.size))
def OptrRep (μ:Mp Bs) (h:Heap) (l n i o:Nat) (v:Value):Prop :=
 ∃ z rs wr b,h[l]? = some (.rows z rs wr)∧n≤rs.length∧v=.pointer (some ⟨b,i*z+o,none⟩)∧(n=rs.length→μ l=some b)
def MpRep (μ:Mp Bs) (h:Heap) (l:Nat) (v:Value):Prop :=
 ∃ es b,h[l]? = some (.map es)∧μ l=some b∧v=.map (some b)
def PtrRep (μ:Mp Bs) (h:Heap) (l o:Nat) (v:Value):Prop :=
 ∃ cs b,h[l]? = some (.cells cs)∧μ l=some b∧v=.pointer (some ⟨b,o,none⟩)
def TptrRep (μ:Mp Bs) (h:Heap) (w:World) (t l o:Nat) (v:Value):Prop :=
 ∃ cs b,h[l]? = some (.cells cs)∧μ l=some b∧v=.pointer (some ⟨b,o,none⟩)∧∃ vs,SomeRow w b vs t
def TownRep (μ:Mp Bs) (h:Heap) (w:World) (t l n:Nat) (v:Value):Prop :=
 ∃ z rs wr base cap,h[l]? = some (.rows z rs wr)∧n≤rs.length∧v=.slice base n cap∧(n=rs.length→n≤cap∧(n=0→cap=0) ∧
  ((base=none∧cap=0)∨∃ b vs,base=some ⟨b,0,none⟩∧μ l=some b∧SomeRow w b vs t∧cap*z≤vs.size))
def VwRep (μ:Mp Bs) (h:Heap) (w:World) (l n a m:Nat) (v:Value):Prop :=
 ∃ z rs wr base cap,h[l]? = some (.rows z rs wr)∧n≤rs.length∧v=.slice base m cap∧(n=rs.length→a+m≤n∧n≤a+cap ∧
  (a < n→∃ b vs T,base=some ⟨b,a*z,none⟩∧μ l=some b∧SomeRow w b vs T∧(a+cap)*z≤vs.size))
theorem TownRep.own {μ:Mp Bs} {h:Heap} {w:World} {t l n:Nat} {v:Value} (r:TownRep μ h w t l n v):OwnRep μ h w l n v:=by
 obtain ⟨z,rs,wr,base,cap,hl,hn,hs,hv⟩:=r
 refine ⟨z,rs,wr,base,cap,hl,hn,hs,fun e=>?_⟩
 obtain ⟨h1,h2,h3⟩:=hv e
 exact ⟨h1,h2,h3.imp (fun q=>q.2) fun ⟨b,vs,q⟩=>⟨b,vs,t,q⟩⟩
mutual
def Rep (μ:Mp Bs) (h:Heap) (w:World):AV→Value→Prop
 | .agg cs,v=>∃ vs:List Value,v=.agg vs.toArray∧RepL μ h w cs vs
 | .tup cs,v=>∃ vs:List Value,v=.tuple vs.toArray∧RepL μ h w cs vs
 | .fn f cs,v=>∃ vs:List Value,v=.func (.func f) #[] vs.toArray∧RepL μ h w cs vs
 | .bnd f cs,v=>∃ vs:List Value,v=.func (.func f) vs.toArray #[]∧RepL μ h w cs vs
 | .iface t a,v=>∃ x,v=.iface t x∧Rep μ h w a x
 | .ptr l o,v=>PtrRep μ h l o v
 | .own l n,v=>OwnRep μ h w l n v
 | .optr l n i o,v=>OptrRep μ h l n i o v
 | .mp l,v=>MpRep μ h l v
 | .tptr t l o,v=>TptrRep μ h w t l o v
 | .town t l n,v=>TownRep μ h w t l n v
 | .vw l n a m,v=>VwRep μ h w l n a m v
 | a,v=>PRep (Mut μ h) w a v
def RepL (μ:Mp Bs) (h:Heap) (w:World):List AV→List Value→Prop
 | [],vs=>vs=[]
 | a::r,vs=>∃ v vr,vs=v::vr∧Rep μ h w a v∧RepL μ h w r vr
end
structure Ext (μ:Mp Bs) (h:Heap) (w:World) (μ':Mp Bs) (h':Heap) (w':World):Prop where
 out:μ'.out=μ.out
 still:μ'.still=μ.still
 os:w'.os=w.os
 tape:w'.tape=w.tape
 output:w'.output=w.output
 size:w.heap.size≤w'.heap.size
 len:h.length≤h'.length
 keep:Keeps (Mut μ h) w (Mut μ' h') w'
 outside:∀ b,b < w.heap.size→(∀ l,l < h.length→μ l≠some b)→w'.heap[b]? = w.heap[b]? ∧ (∀ l,l < h'.length→μ' l≠some b)
 cells:∀ l cs,h[l]? = some (.cells cs)→(∃ cs',h'[l]? = some (.cells cs'))∧μ' l=μ l
 rows:∀ l z rs wr,h[l]? = some (.rows z rs wr)→∃ rs' wr',h'[l]? = some (.rows z rs' wr')∧rs.length≤rs'.length∧(rs'.length=rs.length→μ' l=μ l)
 maps:∀ l es,h[l]? = some (.map es)→(∃ es',h'[l]? = some (.map es'))∧μ' l=μ l
 sizes:∀ (b:Nat) (vs:Array Value) (T:TypeId),SomeRow w b vs T→∃ vs':Array Value,SomeRow w' b vs' T∧vs'.size=vs.size
end
section
variable {Bs:World→Prop}
variable {μ μ' μ'':Mp Bs} {h h' h'':Heap} {w w' w'':World}
theorem Ext.refl (μ:Mp Bs) (h:Heap) (w:World):Ext μ h w μ h w where
 out:=rfl
 still:=rfl
 os:=rfl
 tape:=rfl
 output:=rfl
 size:=Nat.le_refl _
 len:=Nat.le_refl _
 keep:=fun _ _ _ hc hm=>⟨hc,hm⟩
 outside:=fun _ _ ho=>⟨rfl,ho⟩
 cells:=fun _ cs hl=>⟨⟨cs,hl⟩,rfl⟩
 rows:=fun _ _ rs wr hl=>⟨rs,wr,hl,Nat.le_refl _,fun _=>rfl⟩
 maps:=fun _ es hl=>⟨⟨es,hl⟩,rfl⟩
 sizes:=fun _ vs _ hb=>⟨vs,hb,rfl⟩
theorem Ext.trans (a:Ext μ h w μ' h' w') (b:Ext μ' h' w' μ'' h'' w''):Ext μ h w μ'' h'' w'' where
 out:=b.out.trans a.out
 still:=b.still.trans a.still
 os:=b.os.trans a.os
 tape:=b.tape.trans a.tape
 output:=b.output.trans a.output
 size:=Nat.le_trans a.size b.size
 len:=Nat.le_trans a.len b.len
 keep:=fun x o v hc hm=>by
  obtain ⟨h1,h2⟩:=a.keep x o v hc hm
  exact b.keep x o v h1 h2
 outside:=fun x hx ho=>by
  obtain ⟨h1,h2⟩:=a.outside x hx ho
  obtain ⟨h3,h4⟩:=b.outside x (Nat.lt_of_lt_of_le hx a.size) h2
  exact ⟨h3.trans h1,h4⟩
 cells:=fun l cs hl=>by
  obtain ⟨⟨cs',h1⟩,h2⟩:=a.cells l cs hl
  obtain ⟨h3,h4⟩:=b.cells l cs' h1
  exact ⟨h3,h4.trans h2⟩
 maps:=fun l es hl=>by
  obtain ⟨⟨es',h1⟩,h2⟩:=a.maps l es hl
  obtain ⟨h3,h4⟩:=b.maps l es' h1
  exact ⟨h3,h4.trans h2⟩
 rows:=fun l z rs wr hl=>by
  obtain ⟨rs',wr',h1,h2,h3⟩:=a.rows l z rs wr hl
  obtain ⟨rs'',wr'',h4,h5,h6⟩:=b.rows l z rs' wr' h1
  refine ⟨rs'',wr'',h4,Nat.le_trans h2 h5,fun e=>?_⟩
  have e1:rs'.length=rs.length:=by omega
  have e2:rs''.length=rs'.length:=by omega
  exact (h6 e2).trans (h3 e1)
 sizes:=fun x vs T hb=>by
  obtain ⟨vs',h1,h2⟩:=a.sizes x vs T hb
  obtain ⟨vs'',h3,h4⟩:=b.sizes x vs' T h1
  exact ⟨vs'',h3,h4.trans h2⟩
theorem OwnRep.ext (e:Ext μ h w μ' h' w') {l n:Nat} {v:Value} (r:OwnRep μ h w l n v):OwnRep μ' h' w' l n v:=by
 obtain ⟨z,rs,wr,base,cap,hl,hn,hs,hv⟩:=r
 obtain ⟨rs',wr',hl',hle,hμ⟩:=e.rows l z rs wr hl
 refine ⟨z,rs',wr',base,cap,hl',by omega,hs,fun hn'=>?_⟩
 have e1:rs'.length=rs.length:=by omega
 obtain ⟨h2,h3,h4⟩:=hv (by omega)
 refine ⟨h2,h3,?_⟩
 rcases h4 with h4 | ⟨b,vs,T,hb,hm,hw,hz⟩
 ·exact .inl h4
 ·obtain ⟨vs',hw',hs⟩:=e.sizes b vs T hw
  exact .inr ⟨b,vs',T,hb,(hμ e1).trans hm,hw',by omega⟩
theorem TptrRep.ext (e:Ext μ h w μ' h' w') {t l o:Nat} {v:Value} (r:TptrRep μ h w t l o v):TptrRep μ' h' w' t l o v:=by
 obtain ⟨cs,b,hl,hm,hv,vs,hs⟩:=r
 obtain ⟨⟨cs',hl'⟩,hμ⟩:=e.cells l cs hl
 obtain ⟨vs',hs',_⟩:=e.sizes b vs t hs
 exact ⟨cs',b,hl',hμ.trans hm,hv,vs',hs'⟩
theorem TownRep.ext (e:Ext μ h w μ' h' w') {t l n:Nat} {v:Value} (r:TownRep μ h w t l n v):TownRep μ' h' w' t l n v:=by
 obtain ⟨z,rs,wr,base,cap,hl,hn,hs,hv⟩:=r
 obtain ⟨rs',wr',hl',hle,hμ⟩:=e.rows l z rs wr hl
 refine ⟨z,rs',wr',base,cap,hl',by omega,hs,fun hn'=>?_⟩
 have e1:rs'.length=rs.length:=by omega
 obtain ⟨h2,h3,h4⟩:=hv (by omega)
 refine ⟨h2,h3,?_⟩
 rcases h4 with h4 | ⟨b,vs,hb,hm,hw,hz⟩
 ·exact .inl h4
 ·obtain ⟨vs',hw',hs⟩:=e.sizes b vs t hw
  exact .inr ⟨b,vs',hb,(hμ e1).trans hm,hw',by omega⟩
theorem VwRep.ext (e:Ext μ h w μ' h' w') {l n a m:Nat} {v:Value} (r:VwRep μ h w l n a m v):VwRep μ' h' w' l n a m v:=by
 obtain ⟨z,rs,wr,base,cap,hl,hn,hs,hv⟩:=r
 obtain ⟨rs',wr',hl',hle,hμ⟩:=e.rows l z rs wr hl
 refine ⟨z,rs',wr',base,cap,hl',by omega,hs,fun hn'=>?_⟩
 have e1:rs'.length=rs.length:=by omega
 obtain ⟨h2,h3,h4⟩:=hv (by omega)
 refine ⟨h2,h3,fun ha=>?_⟩
 obtain ⟨b,vs,T,hb,hm,hw,hz⟩:=h4 ha
 obtain ⟨vs',hw',hs⟩:=e.sizes b vs T hw
 exact ⟨b,vs',T,hb,(hμ e1).trans hm,hw',by omega⟩
theorem OptrRep.ext (e:Ext μ h w μ' h' w') {l n i o:Nat} {v:Value} (r:OptrRep μ h l n i o v):OptrRep μ' h' l n i o v:=by
 obtain ⟨z,rs,wr,b,hl,hn,hs,hv⟩:=r
 obtain ⟨rs',wr',hl',hle,hμ⟩:=e.rows l z rs wr hl
 exact ⟨z,rs',wr',b,hl',by omega,hs,fun hn'=>(hμ (by omega)).trans (hv (by omega))⟩
theorem MpRep.ext (e:Ext μ h w μ' h' w') {l:Nat} {v:Value} (r:MpRep μ h l v):MpRep μ' h' l v:=by
 obtain ⟨es,b,hl,hm,hv⟩:=r
 obtain ⟨⟨es',hl'⟩,hμ⟩:=e.maps l es hl
 exact ⟨es',b,hl',hμ.trans hm,hv⟩
theorem PtrRep.ext (e:Ext μ h w μ' h' w') {l o:Nat} {v:Value} (r:PtrRep μ h l o v):PtrRep μ' h' l o v:=by
 obtain ⟨cs,b,hl,hm,hv⟩:=r
 obtain ⟨⟨cs',hl'⟩,hμ⟩:=e.cells l cs hl
 exact ⟨cs',b,hl',hμ.trans hm,hv⟩
mutual
theorem Rep.ext (e:Ext μ h w μ' h' w'):∀ (a:AV) (v:Value),Rep μ h w a v→Rep μ' h' w' a v
 | .agg cs,_,r=>by
  obtain ⟨vs,hv,r⟩:=r
  exact ⟨vs,hv,RepL.ext e cs vs r⟩
 | .tup cs,_,r=>by
  obtain ⟨vs,hv,r⟩:=r
  exact ⟨vs,hv,RepL.ext e cs vs r⟩
 | .fn _ cs,_,r=>by
  obtain ⟨vs,hv,r⟩:=r
  exact ⟨vs,hv,RepL.ext e cs vs r⟩
 | .bnd _ cs,_,r=>by
  obtain ⟨vs,hv,r⟩:=r
  exact ⟨vs,hv,RepL.ext e cs vs r⟩
 | .iface _ a,_,r=>by
  obtain ⟨x,hv,r⟩:=r
  exact ⟨x,hv,Rep.ext e a x r⟩
 | .ptr _ _,_,r=>PtrRep.ext e r
 | .own _ _,_,r=>OwnRep.ext e r
 | .optr _ _ _ _,_,r=>OptrRep.ext e r
 | .mp _,_,r=>MpRep.ext e r
 | .tptr _ _ _,_,r=>TptrRep.ext e r
 | .town _ _ _,_,r=>TownRep.ext e r
 | .vw _ _ _ _,_,r=>VwRep.ext e r
 | .int _ _,_,r=>r
 | .bool _,_,r=>r
 | .str _,_,r=>r
 | .nilp,_,r=>r
 | .nilf,_,r=>r
 | .nili,_,r=>r
 | .emp _,_,r=>r
 | .nilm,_,r=>r
 | .nils,_,r=>r
 | .rows rs,v,r=>PRep.keep e.keep (.rows rs) v r
 | .lit rs,v,r=>PRep.keep e.keep (.lit rs) v r
 | .rptr row o,v,r=>PRep.keep e.keep (.rptr row o) v r
 | .any,_,r=>r
theorem RepL.ext (e:Ext μ h w μ' h' w'):∀ (as_:List AV) (vs:List Value),RepL μ h w as_ vs→RepL μ' h' w' as_ vs
 | [],_,r=>r
 | a::r,_,x=>by
  obtain ⟨v,vr,hv,h1,h2⟩:=x
  exact ⟨v,vr,hv,Rep.ext e a v h1,RepL.ext e r vr h2⟩
end
mutual
theorem Rep.pure:∀ (a:AV) (v:Value),PRep (Mut μ h) w a v→Rep μ h w a v
 | .agg cs,_,r=>by
  obtain ⟨vs,hv,r⟩:=r
  exact ⟨vs,hv,RepL.pure cs vs r⟩
 | .tup cs,_,r=>by
  obtain ⟨vs,hv,r⟩:=r
  exact ⟨vs,hv,RepL.pure cs vs r⟩
 | .fn _ cs,_,r=>by
  obtain ⟨vs,hv,r⟩:=r
  exact ⟨vs,hv,RepL.pure cs vs r⟩
 | .bnd _ cs,_,r=>by
  obtain ⟨vs,hv,r⟩:=r
  exact ⟨vs,hv,RepL.pure cs vs r⟩
 | .iface _ a,_,r=>by
  obtain ⟨x,hv,r⟩:=r
  exact ⟨x,hv,Rep.pure a x r⟩
 | .ptr _ _,_,r=>r.elim
 | .own _ _,_,r=>r.elim
 | .optr _ _ _ _,_,r=>r.elim
 | .mp _,_,r=>r.elim
 | .tptr _ _ _,_,r=>r.elim
 | .town _ _ _,_,r=>r.elim
 | .vw _ _ _ _,_,r=>r.elim
 | .int _ _,_,r=>r
 | .bool _,_,r=>r
 | .str _,_,r=>r
 | .nilp,_,r=>r
 | .nilf,_,r=>r
 | .nili,_,r=>r
 | .emp _,_,r=>r
 | .nilm,_,r=>r
 | .nils,_,r=>r
 | .rows _,_,r=>r
 | .lit _,_,r=>r
 | .rptr _ _,_,r=>r
 | .any,_,r=>r
theorem RepL.pure:∀ (as_:List AV) (vs:List Value),PRepL (Mut μ h) w as_ vs→RepL μ h w as_ vs
 | [],_,r=>r
 | a::r,_,x=>by
  obtain ⟨v,vr,hv,h1,h2⟩:=x
  exact ⟨v,vr,hv,Rep.pure a v h1,RepL.pure r vr h2⟩
end
def RowsIn (M:Nat→Nat→Prop) (w:World) (z:Nat) (rs:List (List AV)) (vs:Array Value):Prop :=
 ∀ i row,rs[i]? = some row→row.length=z∧singles row=true∧∀ c a,row[c]? = some a→∃ v,vs[i*z+c]? = some v∧PRep M w a v
def RowsN (μ:Mp Bs) (h:Heap) (w:World) (z:Nat) (rs:List (List AV)) (vs:Array Value):Prop :=
 ∀ i row,rs[i]? = some row→row.length=z∧singles row=true∧∀ c a,row[c]? = some a→∃ v,vs[i*z+c]? = some v∧Rep μ h w a v
mutual
theorem Rep.none:∀ (a:AV) (v:Value),locs a=[]→Rep μ h w a v→PRep (Mut μ h) w a v
 | .agg cs,_,hl,r=>by
  obtain ⟨vs,hv,r⟩:=r
  exact ⟨vs,hv,RepL.none cs vs hl r⟩
 | .tup cs,_,hl,r=>by
  obtain ⟨vs,hv,r⟩:=r
  exact ⟨vs,hv,RepL.none cs vs hl r⟩
 | .fn _ cs,_,hl,r=>by
  obtain ⟨vs,hv,r⟩:=r
  exact ⟨vs,hv,RepL.none cs vs hl r⟩
 | .bnd _ cs,_,hl,r=>by
  obtain ⟨vs,hv,r⟩:=r
  exact ⟨vs,hv,RepL.none cs vs hl r⟩
 | .iface _ a,_,hl,r=>by
  obtain ⟨x,hv,r⟩:=r
  exact ⟨x,hv,Rep.none a x hl r⟩
 | .ptr _ _,_,hl,_=>by simp [locs] at hl
 | .own _ _,_,hl,_=>by simp [locs] at hl
 | .optr _ _ _ _,_,hl,_=>by simp [locs] at hl
 | .mp _,_,hl,_=>by simp [locs] at hl
 | .tptr _ _ _,_,hl,_=>by simp [locs] at hl
 | .town _ _ _,_,hl,_=>by simp [locs] at hl
 | .vw _ _ _ _,_,hl,_=>by simp [locs] at hl
 | .int _ _,_,_,r=>r
 | .bool _,_,_,r=>r
 | .str _,_,_,r=>r
 | .nilp,_,_,r=>r
 | .nilf,_,_,r=>r
 | .nili,_,_,r=>r
 | .emp _,_,_,r=>r
 | .nilm,_,_,r=>r
 | .nils,_,_,r=>r
 | .rows _,_,_,r=>r
 | .lit _,_,_,r=>r
 | .rptr _ _,_,_,r=>r
 | .any,_,_,r=>r
theorem RepL.none:∀ (as_:List AV) (vs:List Value),locsL as_=[]→RepL μ h w as_ vs→PRepL (Mut μ h) w as_ vs
 | [],_,_,r=>r
 | a::r,_,hl,x=>by
  obtain ⟨v,vr,hv,h1,h2⟩:=x
  have hl:=List.append_eq_nil_iff.1 (show locs a++locsL r=[] from hl)
  exact ⟨v,vr,hv,Rep.none a v hl.1 h1,RepL.none r vr hl.2 h2⟩
end
theorem locsL_mem:∀ {l:List AV} {a:AV},locsL l=[]→a∈l→locs a=[]
 | b::l,a,hl,ha=>by
  have hl:=List.append_eq_nil_iff.1 (show locs b++locsL l=[] from hl)
  rcases List.mem_cons.1 ha with rfl | ha
  ·exact hl.1
  ·exact locsL_mem hl.2 ha
theorem locsR_mem:∀ {rs:List (List AV)} {row:List AV},locsR rs=[]→row∈rs→locsL row=[]
 | b::l,a,hl,ha=>by
  have hl:=List.append_eq_nil_iff.1 (show locsL b++locsR l=[] from hl)
  rcases List.mem_cons.1 ha with rfl | ha
  ·exact hl.1
  ·exact locsR_mem hl.2 ha
theorem RowsN.none {z:Nat} {rs:List (List AV)} {vs:Array Value} (hl:locsR rs=[]) (r:RowsN μ h w z rs vs):RowsIn (Mut μ h) w z rs vs:=fun i row hrow=>by
 obtain ⟨h1,h2,h3⟩:=r i row hrow
 refine ⟨h1,h2,fun c a ha=>?_⟩
 obtain ⟨v,h4,h5⟩:=h3 c a ha
 exact ⟨v,h4,Rep.none a v (locsL_mem (locsR_mem hl (List.mem_of_getElem? hrow)) (List.mem_of_getElem? ha)) h5⟩
theorem RowsIn.some {z:Nat} {rs:List (List AV)} {vs:Array Value} (r:RowsIn (Mut μ h) w z rs vs):RowsN μ h w z rs vs:=fun i row hrow=>by
 obtain ⟨h1,h2,h3⟩:=r i row hrow
 refine ⟨h1,h2,fun c a ha=>?_⟩
 obtain ⟨v,h4,h5⟩:=h3 c a ha
 exact ⟨v,h4,Rep.pure a v h5⟩
def EntRep (M:Nat→Nat→Prop) (w:World):List (AV×AV)→List MapEntry→Prop
 | [],ms=>ms=[]
 | (k,v)::r,ms=>∃ m mr,ms=m::mr∧PRep M w k m.key∧PRep M w v m.val∧EntRep M w r mr
theorem EntRep.keep {M M':Nat→Nat→Prop} (hk:Keeps M w M' w'):∀ (es:List (AV×AV)) (ms:List MapEntry),EntRep M w es ms→EntRep M' w' es ms
 | [],_,h=>h
 | (k,v)::r,_,h=>by
  obtain ⟨m,mr,he,h1,h2,h3⟩:=h
  exact ⟨m,mr,he,PRep.keep hk k _ h1,PRep.keep hk v _ h2,EntRep.keep hk r mr h3⟩
def Apart (es:List (AV×AV)):Prop:=(es.map (·.1)).Pairwise fun a b=>apartK a b=true
def EntSet (M:Nat→Nat→Prop) (w:World) (es:List (AV×AV)) (ms:List MapEntry):Prop:=Apart es∧∃ ms':List MapEntry,ms'.Perm ms∧EntRep M w es ms'
theorem EntSet.keep {M M':Nat→Nat→Prop} (hk:Keeps M w M' w') (es:List (AV×AV)) (ms:List MapEntry) (h:EntSet M w es ms):EntSet M' w' es ms:=by
 obtain ⟨h1,ms',h2,h3⟩:=h
 exact ⟨h1,ms',h2,h3.keep hk⟩
theorem EntSet.empty {M:Nat→Nat→Prop}:EntSet M w [] []:=⟨List.Pairwise.nil,[],List.Perm.refl _,rfl⟩
def Blank (rs:List (List AV)):Prop:=∀ row∈rs,row=[]
theorem Blank.nil:Blank []:=fun _ h=>by simp at h
theorem Blank.locs:∀ {rs:List (List AV)},Blank rs→locsR rs=[]
 | [],_=>rfl
 | r::rs,b=>by
  simp only [locsR]
  rw [b r (by simp),Blank.locs (rs:=rs) fun row h=>b row (List.mem_cons_of_mem _ h)]
  rfl
theorem Blank.at {rs:List (List AV)} (b:Blank rs) {i:Nat} {row:List AV} (h:rs[i]? = some row):row=[]:=b row (List.mem_of_getElem? h)
def BlkRel (μ:Mp Bs) (h:Heap) (w:World) (l:Nat):Blk→Prop
 | .cells cs=>∃ b vs T,μ l=some b∧w.heap[b]? = some (.cells (List.toArray vs) T (0,0))∧singles cs=true∧RepL μ h w cs vs
 | .rows z rs wr=>(Blank rs∧μ l=none)∨∃ b vs T,μ l=some b∧RowAt w b vs T wr (rs.length*z)∧rs.length*z≤vs.size∧RowsN μ h w z rs vs
 | .hole=>μ l=none
 | .map es=>∃ b ms clock,μ l=some b∧w.heap[b]? = some (.map (List.toArray ms) clock)∧EntSet (Mut μ h) w es ms
structure Rel (μ:Mp Bs) (h:Heap) (w:World):Prop where
 inj:∀ l l' b,l < h.length→l' < h.length→μ l=some b→μ l'=some b→l=l'
 blk:∀ l k,h[l]? = some k→BlkRel μ h w l k
 apart:∀ l b o,l < h.length→μ l=some b→¬μ.out b o
 old:∀ b o,μ.out b o→b < w.heap.size
 still:∀ b,μ.still b→b < w.heap.size∧∀ l,l < h.length→μ l≠some b
 base:∀ w',(∀ b,μ.still b→w'.heap[b]? = w.heap[b]?)→Bs w'
theorem Rel.carry (hr:Rel μ h w) (e:Ext μ h w μ' h' w'):(∀ b,μ'.still b→b < w'.heap.size∧∀ l,l < h'.length→μ' l≠some b)∧∀ w2:World,(∀ b,μ'.still b→w2.heap[b]? = w'.heap[b]?)→Bs w2:=by
 rw [e.still]
 refine ⟨fun b hb=>?_,fun w2 h2=>hr.base w2 fun b hb=>?_⟩
 ·obtain ⟨h1,h2⟩:=hr.still b hb
  exact ⟨Nat.lt_of_lt_of_le h1 e.size,(e.outside b h1 h2).2⟩
 ·obtain ⟨h1,h3⟩:=hr.still b hb
  rw [h2 b hb,(e.outside b h1 h3).1]
def FrRel (μ:Mp Bs) (h:Heap) (w:World) (fr:Fr) (tmps:Array Value):Prop:=∀ i,Rep μ h w (get fr i) (tmps.getD i undef)
end
section
variable {Bs:World→Prop}
variable {P:Program} {μ:Mp Bs} {h:Heap} {w:World}
theorem add_none (b o j:Nat):(⟨b,o,none⟩:Addr).add j=⟨b,o+j,none⟩:=by
 unfold Addr.add;split<;>simp_all
theorem sh_agg {t:TypeId} {n:Nat} (e:sh P t=some (.agg n)):(isAgg t).run P w=.ok true w∧(sizeOf t).run P w=.ok n w:=by
 unfold sh at e
 split at e
 ·rename_i fs i hu hi
  simp only [Option.some.injEq,Sh.agg.injEq] at e
  simp [isAgg,sizeOf,typeInfo,underlying,hu,hi,e]
 ·rename_i n' e' i hu hi
  simp only [Option.some.injEq,Sh.agg.injEq] at e
  simp [isAgg,sizeOf,typeInfo,underlying,hu,hi,e]
 ·simp at e
 ·simp at e
theorem sh_one {t:TypeId} (e:sh P t=some .one):(isAgg t).run P w=.ok false w:=by
 unfold sh at e
 split at e
 ·simp at e
 ·simp at e
 ·rename_i d i h1 h2 hu hi
  cases d<;>simp_all [isAgg,underlying]
 ·simp at e
def CellsAt (μ:Mp Bs) (h:Heap) (w:World) (f:Nat→Option Value) (cs:List AV):Prop :=
 ∀ i a,cs[i]? = some a→∃ v,f i=some v∧Rep μ h w a v
theorem RepL.at:∀ (cs:List AV) (vs:List Value),RepL μ h w cs vs→vs.length=cs.length∧CellsAt μ h w (fun i=>vs[i]?) cs
 | [],vs,r=>by
  have:vs=[]:=r
  subst this
  exact ⟨rfl,fun i a e=>by simp at e⟩
 | c::cs,vs,r=>by
  obtain ⟨v,vr,rfl,h1,h2⟩:=r
  obtain ⟨h3,h4⟩:=RepL.at cs vr h2
  refine ⟨by simp [h3],fun i a e=>?_⟩
  cases i with
  | zero =>
   simp only [List.getElem?_cons_zero,Option.some.injEq] at e
   subst e
   exact ⟨v,by simp,h1⟩
  | succ i =>
   simp only [List.getElem?_cons_succ] at e ⊢
   exact h4 i a e
theorem RepL.of_at:∀ (cs:List AV) (vs:List Value),vs.length=cs.length→CellsAt μ h w (fun i=>vs[i]?) cs→RepL μ h w cs vs
 | [],vs,hl,_=>List.length_eq_zero_iff.1 hl
 | c::cs,vs,hl,r=>by
  cases vs with
  | nil=>simp at hl
  | cons v vr =>
   obtain ⟨v',e,r0⟩:=r 0 c rfl
   simp only [List.getElem?_cons_zero,Option.some.injEq] at e
   subst e
   exact ⟨v,vr,rfl,r0,RepL.of_at cs vr (by simpa using hl) fun i a e=>by simpa using r (i+1) a (by simpa using e)⟩
theorem PMem.at {M:Nat→Nat→Prop} {b:Nat}:∀ (row:List AV) (p:Nat),PMem M w b row p→∀ i a,row[i]? = some a→∃ v,w.cell? ⟨b,p+i,none⟩=some v∧¬M b (p+i)∧PRep M w a v
 | [],_,_,i,a,e=>by simp at e
 | c::cs,p,r,i,a,e=>by
  obtain ⟨⟨v,h1,h2,h3⟩,h4⟩:=r
  cases i with
  | zero =>
   simp only [List.getElem?_cons_zero,Option.some.injEq] at e
   subst e
   exact ⟨v,h1,h2,h3⟩
  | succ i =>
   simp only [List.getElem?_cons_succ] at e
   have:=PMem.at cs (p+1) h4 i a e
   rwa [show p+1+i=p+(i+1) from by omega] at this
theorem PMem.of_at {M:Nat→Nat→Prop} {b:Nat}:∀ (row:List AV) (p:Nat),(∀ i a,row[i]? = some a→∃ v,w.cell? ⟨b,p+i,none⟩=some v∧¬M b (p+i)∧PRep M w a v)→PMem M w b row p
 | [],_,_=>trivial
 | c::cs,p,r=>by
  refine ⟨by simpa using r 0 c rfl,PMem.of_at cs (p+1) fun i a e=>?_⟩
  have:=r (i+1) a (by simpa using e)
  rwa [show p+(i+1)=p+1+i from by omega] at this
theorem PRows.at {M:Nat→Nat→Prop} {z b:Nat}:∀ (rs:List (List AV)) (o:Nat),PRows M w z b rs o→∀ i row,rs[i]? = some row→row.length=z∧singles row=true∧PMem M w b row (o+i*z)
 | [],_,_,i,row,e=>by simp at e
 | r::rs,o,x,i,row,e=>by
  obtain ⟨h1,hs,h2,h3⟩:=x
  cases i with
  | zero =>
   simp only [List.getElem?_cons_zero,Option.some.injEq] at e
   subst e
   exact ⟨h1,hs,by simpa using h2⟩
  | succ i =>
   simp only [List.getElem?_cons_succ] at e
   have:=PRows.at rs (o+z) h3 i row e
   rwa [show o+z+i*z=o+(i+1)*z from by rw [Nat.succ_mul];omega] at this
theorem PRows.of_at {M:Nat→Nat→Prop} {z b:Nat}:∀ (rs:List (List AV)) (o:Nat),(∀ i row,rs[i]? = some row→row.length=z∧singles row=true∧PMem M w b row (o+i*z))→PRows M w z b rs o
 | [],_,_=>trivial
 | r::rs,o,x=>by
  have h0:=x 0 r rfl
  refine ⟨h0.1,h0.2.1,by simpa using h0.2.2,PRows.of_at rs (o+z) fun i row e=>?_⟩
  have:=x (i+1) row (by simpa using e)
  rwa [show o+(i+1)*z=o+z+i*z from by rw [Nat.succ_mul];omega] at this
theorem gather (f:Nat→Option Value) (o:Nat):∀ n:Nat,(∀ i,i < n→∃ v,f (o+i)=some v)→∃ vs:List Value,vs.length=n∧∀ j v,vs[j]? = some v→f (o+j)=some v
 | 0,_=>⟨[],rfl,fun j v e=>by simp at e⟩
 | n+1,hx=>by
  obtain ⟨vs,hl,hv⟩:=gather f o n fun i hi=>hx i (by omega)
  obtain ⟨u,hu⟩:=hx n (by omega)
  refine ⟨vs++[u],by simp [hl],fun j v e=>?_⟩
  by_cases hj:j < n
  ·rw [List.getElem?_append_left (by omega)] at e
   exact hv j v e
  ·have hjn:j=n:=by
    have:=(List.getElem?_eq_some_iff.1 e).1
    simp [hl] at this;omega
   subst hjn
   rw [List.getElem?_append_right (by omega)] at e
   simp [hl] at e
   rw [←e];exact hu
theorem part_sound {t:TypeId} {cs:List AV} {o:Nat} {x:AV} {f:Nat→Option Value} (e:part (sh P t) cs o=some x) (hc:CellsAt μ h w f cs) :
  (sh P t=some .one∧∃ v,f o=some v∧Rep μ h w x v) ∨
  (∃ vs:List Value,sh P t=some (.agg vs.length)∧(∀ j v,vs[j]? = some v→f (o+j)=some v)∧Rep μ h w x (.agg vs.toArray)):=by
 unfold part at e
 split at e
 ·rename_i hs
  obtain ⟨v,hv,hr⟩:=hc o x e
  exact .inl ⟨hs,v,hv,hr⟩
 ·rename_i n hs
  split at e
  ·rename_i hle
   simp only [Option.some.injEq] at e
   subst e
   obtain ⟨vs,hl,hv⟩:=gather f o n fun i hi=>by
    obtain ⟨v,hv,_⟩:=hc (o+i) (cs[o+i]'(by omega)) (List.getElem?_eq_getElem (by omega))
    exact ⟨v,hv⟩
   refine .inr ⟨vs,by rw [hl];exact hs,hv,vs,rfl,RepL.of_at _ _ (by simp [hl];omega) fun i a ha=>?_⟩
   have hi:i < n:=by
    have:=(List.getElem?_eq_some_iff.1 ha).1
    simp at this;omega
   rw [List.getElem?_take,if_pos hi,List.getElem?_drop] at ha
   obtain ⟨v,hv',hr⟩:=hc (o+i) a ha
   have hvi:vs[i]? = some (vs[i]'(by omega)):=List.getElem?_eq_getElem (by omega)
   have:=hv i _ hvi
   refine ⟨vs[i]'(by omega),by simp,?_⟩
   rw [hv'] at this
   simp only [Option.some.injEq] at this
   rw [←this];exact hr
  ·simp at e
 ·simp at e
theorem loadVar_sound {t:TypeId} {b p o:Nat} {cs:List AV} {x:AV} (e:part (sh P t) cs o=some x)
  (hc:CellsAt μ h w (fun i=>w.cell? ⟨b,p+i,none⟩) cs):∃ v,(loadVar t ⟨b,p+o,none⟩).run P w=.ok v w∧Rep μ h w x v:=by
 rcases part_sound e hc with ⟨hs,v,hv,hr⟩ | ⟨vs,hs,hv,hr⟩
 ·refine ⟨v,?_,hr⟩
  simp only [loadVar,Sem.run_bind,sh_one hs,Result.andThen_ok]
  simp [hv]
 ·obtain ⟨h1,h2⟩:=sh_agg (w:=w) hs
  refine ⟨_,?_,hr⟩
  have h3:=run_loadCells_list (P:=P) w ⟨b,p+o,none⟩ vs fun j v hj=>by
   rw [add_none,Nat.add_assoc];exact hv j v hj
  simp [loadVar,h1,h2,h3]
theorem aLoad_sound {t:TypeId} {p x:AV} {v:Value} (hr:Rel μ h w) (e:aLoad P t p h=some x) (hp:Rep μ h w p v) :
  ∃ u,(Instr.loadAt t v).run P w=.ok u w∧Rep μ h w x u:=by
 unfold aLoad at e
 split at e
 ·rename_i row o
  obtain ⟨b,q,rfl,hm⟩:=hp
  have hc:CellsAt μ h w (fun i=>w.cell? ⟨b,q+i,none⟩) row:=fun i a ha=>by
   obtain ⟨u,h1,_,h3⟩:=PMem.at row q hm i a ha
   exact ⟨u,h1,Rep.pure a u h3⟩
  obtain ⟨u,h1,h2⟩:=loadVar_sound e hc
  exact ⟨u,by simp [Instr.loadAt,Instr.sureAddr,h1],h2⟩
 ·rename_i l o
  split at e
  ·rename_i cs hl
   obtain ⟨cs',b,hl',hm,rfl⟩:=hp
   obtain ⟨b',vs,T,hm',hw,_,hrl⟩:=hr.blk l _ hl
   have:b'=b:=by rw [hm] at hm';simpa using hm'.symm
   subst this
   have hc:CellsAt μ h w (fun i=>w.cell? ⟨b',0+i,none⟩) cs:=fun i a ha=>by
    obtain ⟨u,h1,h2⟩:=(RepL.at cs vs hrl).2 i a ha
    exact ⟨u,by simp only [World.cell?,hw];simpa using h1,h2⟩
   obtain ⟨u,h1,h2⟩:=loadVar_sound e hc
   rw [Nat.zero_add] at h1
   exact ⟨u,by simp [Instr.loadAt,Instr.sureAddr,h1],h2⟩
  ·simp at e
 ·rename_i l n i o
  split at e
  ·rename_i z rs wr hl
   split at e
   ·rename_i hn
    split at e
    ·rename_i row hrow
     obtain ⟨z',rs',wr',b,hl',_,rfl,hv⟩:=hp
     rw [hl] at hl'
     simp only [Option.some.injEq,Blk.rows.injEq] at hl'
     obtain ⟨rfl,rfl,rfl⟩:=hl'
     have hm:=hv hn.symm
     rcases hr.blk l _ hl with ⟨_,h0⟩ | ⟨b',vs,T,hm',⟨_,hw,_⟩,_,hin⟩
     ·rw [hm] at h0;simp at h0
     ·have:b'=b:=by rw [hm] at hm';simpa using hm'.symm
      subst this
      obtain ⟨_,_,hin⟩:=hin i row hrow
      have hc:CellsAt μ h w (fun c=>w.cell? ⟨b',i*z+c,none⟩) row:=fun c a ha=>by
       obtain ⟨u,h1,h2⟩:=hin c a ha
       exact ⟨u,by simp only [World.cell?,hw];simpa using h1,h2⟩
      obtain ⟨u,h1,h2⟩:=loadVar_sound e hc
      exact ⟨u,by simp [Instr.loadAt,Instr.sureAddr,h1],h2⟩
    ·simp at e
   ·simp at e
  ·simp at e
 ·simp at e
mutual
theorem ofVal_rep {M:Nat→Nat→Prop}:∀ v:Value,PRep M w (ofVal v) v
 | .int k n=>rfl
 | .bool b=>rfl
 | .string s=>by simp [ofVal,PRep]
 | .pointer none=>rfl
 | .pointer (some _)=>trivial
 | .nilFunc=>rfl
 | .nilIface=>rfl
 | .map none=>rfl
 | .map (some _)=>trivial
 | .slice none 0 0=>rfl
 | .slice none 0 (_+1)=>trivial
 | .slice none (_+1) _=>trivial
 | .slice (some _) _ _=>trivial
 | .agg ⟨cs⟩=>⟨cs,rfl,ofVals_rep cs⟩
 | .float _ _=>trivial
 | .complex _ _ _=>trivial
 | .chan _=>trivial
 | .func _ _ _=>trivial
 | .iface _ _=>trivial
 | .tuple _=>trivial
theorem ofVals_rep {M:Nat→Nat→Prop}:∀ vs:List Value,PRepL M w (ofVals vs) vs
 | []=>rfl
 | v::vs=>⟨v,vs,rfl,ofVal_rep v,ofVals_rep vs⟩
end
def EvRep (μ:Mp Bs) (h:Heap) (w:World) (ev:Operand→AV) (ρ:Operand→Value):Prop:=∀ y,Rep μ h w (ev y) (ρ y)
theorem ev_rep {fr:Fr} {a:Act} (hf:FrRel μ h w fr a.tmps):EvRep μ h w (ev fr) a.eval:=by
 intro y
 cases y with
 | tmp t=>exact hf t
 | const v=>exact Rep.pure _ _ (ofVal_rep v)
 | global g=>exact trivial
 | func f=>exact ⟨[],rfl,rfl⟩
theorem evs_rep {ev:Operand→AV} {ρ:Operand→Value} (he:EvRep μ h w ev ρ):∀ xs:List Operand,RepL μ h w (evs ev xs) (xs.map ρ)
 | []=>rfl
 | x::xs=>⟨ρ x,xs.map ρ,rfl,he x,evs_rep he xs⟩
theorem own_frozen {l n:Nat} {v:Value} {z:Nat} {rs:List (List AV)} (hr:Rel μ h w) (hl:h[l]? = some (.rows z rs false)) (hn:rs.length=n) (hz:locsR rs=[]) (hv:OwnRep μ h w l n v) :
  ∃ base cap,v=.slice base rs.length cap∧rs.length≤cap∧(rs=[]∨∃ b,base=some ⟨b,0,none⟩∧PRows (Mut μ h) w z b rs 0):=by
 obtain ⟨z',rs',wr',base,cap,hl',_,rfl,hv⟩:=hv
 rw [hl] at hl'
 simp only [Option.some.injEq,Blk.rows.injEq] at hl'
 obtain ⟨rfl,rfl,rfl⟩:=hl'
 obtain ⟨hc,_,hb⟩:=hv hn.symm
 refine ⟨base,cap,by rw [hn],by omega,?_⟩
 rcases hb with rfl | ⟨b,vs,T,rfl,hm,hw,_⟩
 ·left;exact List.length_eq_zero_iff.1 (by omega)
 ·rcases hr.blk l _ hl with ⟨_,h0⟩ | ⟨b',vs',T',hm',⟨_,hw',_⟩,hlen,hin⟩
  ·rw [hm] at h0;simp at h0
  ·have e:b'=b:=by rw [hm] at hm';simpa using hm'.symm
   subst e
   right
   refine ⟨b',rfl,PRows.of_at rs 0 fun i row hrow=>?_⟩
   obtain ⟨h1,hs1,h3⟩:=hin.none hz i row hrow
   refine ⟨h1,hs1,PMem.of_at row _ fun c a ha=>?_⟩
   obtain ⟨u,hu,hp⟩:=h3 c a ha
   have hi:i < rs.length:=(List.getElem?_eq_some_iff.1 hrow).1
   have hcl:c < z:=by rw [←h1];exact (List.getElem?_eq_some_iff.1 ha).1
   refine ⟨u,by simp only [World.cell?,hw'];simpa using hu,?_,hp⟩
   rintro (ho | ⟨l2,k2,hk2,hm2,ho⟩)
   ·exact hr.apart l b' _ (List.getElem?_eq_some_iff.1 hl).1 hm' ho
   have hlt:l2 < h.length:=(List.getElem?_eq_some_iff.1 hk2).1
   have hlt':l < h.length:=(List.getElem?_eq_some_iff.1 hl).1
   have e:=hr.inj l2 l b' hlt hlt' hm2 hm'
   subst e
   rw [hl] at hk2
   simp only [Option.some.injEq] at hk2
   subst hk2
   rcases ho with ho | ho
   ·simp at ho
   ·have:i*z+z≤rs.length*z:=by rw [←Nat.succ_mul];exact Nat.mul_le_mul_right z hi
    rw [Nat.mul_comm] at ho
    omega
mutual
theorem purify_sound (hr:Rel μ h w):∀ (a a':AV) (v:Value),purify h a=some a'→Rep μ h w a v→PRep (Mut μ h) w a' v
 | .own l n,a',v,e,r=>by
  simp only [purify] at e
  split at e
  ·rename_i z rs wr hl
   split at e
   ·rename_i hc
    obtain ⟨hn,rfl,hz⟩:=hc
    simp only [Option.some.injEq] at e
    subst e
    obtain ⟨base,cap,hv,hc,hb⟩:=own_frozen hr hl hn hz r
    exact ⟨base,cap,hv,hc,hb.imp id fun ⟨b,hb,hp⟩=>⟨b,0,z,hb,hp⟩⟩
   ·simp at e
  ·simp at e
 | .nils,a',v,e,r=>by
  simp only [purify,Option.some.injEq] at e
  subst e
  have:v=.slice none 0 0:=r
  exact ⟨none,0,this,Nat.le_refl _,.inl rfl⟩
 | .lit rs,a',v,e,r=>by
  simp only [purify,Option.some.injEq] at e
  subst e
  obtain ⟨base,hv,hb⟩:=r
  exact ⟨base,rs.length,hv,Nat.le_refl _,hb⟩
 | .agg cs,a',v,e,r=>by
  simp only [purify] at e
  split at e
  ·rename_i cs' hcs
   simp only [Option.some.injEq] at e
   subst e
   obtain ⟨vs,hv,hl⟩:=r
   exact ⟨vs,hv,purifyL_sound hr cs cs' vs hcs hl⟩
  ·simp at e
 | .tup cs,a',v,e,r=>by
  simp only [purify] at e
  split at e
  ·rename_i cs' hcs
   simp only [Option.some.injEq] at e
   subst e
   obtain ⟨vs,hv,hl⟩:=r
   exact ⟨vs,hv,purifyL_sound hr cs cs' vs hcs hl⟩
  ·simp at e
 | .fn f cs,a',v,e,r=>by
  simp only [purify] at e
  split at e
  ·rename_i cs' hcs
   simp only [Option.some.injEq] at e
   subst e
   obtain ⟨vs,hv,hl⟩:=r
   exact ⟨vs,hv,purifyL_sound hr cs cs' vs hcs hl⟩
  ·simp at e
 | .bnd f cs,a',v,e,r=>by
  simp only [purify] at e
  split at e
  ·rename_i cs' hcs
   simp only [Option.some.injEq] at e
   subst e
   obtain ⟨vs,hv,hl⟩:=r
   exact ⟨vs,hv,purifyL_sound hr cs cs' vs hcs hl⟩
  ·simp at e
 | .iface t a,a',v,e,r=>by
  simp only [purify] at e
  split at e
  ·rename_i b hb
   simp only [Option.some.injEq] at e
   subst e
   obtain ⟨x,hv,hx⟩:=r
   exact ⟨x,hv,purify_sound hr a b x hb hx⟩
  ·simp at e
 | .ptr _ _,_,_,e,_=>by simp [purify] at e
 | .optr _ _ _ _,_,_,e,_=>by simp [purify] at e
 | .int _ _,_,_,e,r=>by simp only [purify,Option.some.injEq] at e;subst e;exact r
 | .bool _,_,_,e,r=>by simp only [purify,Option.some.injEq] at e;subst e;exact r
 | .str _,_,_,e,r=>by simp only [purify,Option.some.injEq] at e;subst e;exact r
 | .nilp,_,_,e,r=>by simp only [purify,Option.some.injEq] at e;subst e;exact r
 | .nilf,_,_,e,r=>by simp only [purify,Option.some.injEq] at e;subst e;exact r
 | .nili,_,_,e,r=>by simp only [purify,Option.some.injEq] at e;subst e;exact r
 | .emp _,_,_,e,r=>by simp only [purify,Option.some.injEq] at e;subst e;exact r
 | .nilm,_,_,e,r=>by simp only [purify,Option.some.injEq] at e;subst e;exact r
 | .rows _,_,_,e,r=>by simp only [purify,Option.some.injEq] at e;subst e;exact r
 | .rptr _ _,_,_,e,r=>by simp only [purify,Option.some.injEq] at e;subst e;exact r
 | .any,_,_,e,_=>by simp only [purify,Option.some.injEq] at e;subst e;exact trivial
theorem purifyL_sound (hr:Rel μ h w):∀ (l l':List AV) (vs:List Value),purifyL h l=some l'→RepL μ h w l vs→PRepL (Mut μ h) w l' vs
 | [],l',vs,e,r=>by
  simp only [purifyL,Option.some.injEq] at e
  subst e
  exact r
 | a::r,l',vs,e,x=>by
  simp only [purifyL] at e
  split at e
  ·rename_i a1 h1
   split at e
   ·rename_i r1 h2
    simp only [Option.some.injEq] at e
    subst e
    obtain ⟨v,vr,hv,x1,x2⟩:=x
    exact ⟨v,vr,hv,purify_sound hr a a1 v h1 x1,purifyL_sound hr r r1 vr h2 x2⟩
   ·simp at e
  ·simp at e
end
mutual
theorem purifyK_sound (hr:Rel μ h w):∀ (a a':AV) (v:Value),purifyK h a=some a'→Rep μ h w a v→PRep (Mut μ h) w a' v
 | .own l n,a',v,e,r=>by
  simp only [purifyK] at e
  split at e
  ·rename_i z rs wr hl
   split at e
   ·rename_i hc
    obtain ⟨hn,rfl,hz⟩:=hc
    simp only [Option.some.injEq] at e
    subst e
    obtain ⟨base,cap,hv,hc,hb⟩:=own_frozen hr hl hn hz r
    exact ⟨base,cap,hv,hc,hb.imp id fun ⟨b,hb,hp⟩=>⟨b,0,z,hb,hp⟩⟩
   ·simp at e
  ·simp at e
 | .nils,a',v,e,r=>by
  simp only [purifyK,Option.some.injEq] at e
  subst e
  exact r
 | .lit rs,a',v,e,r=>by
  simp only [purifyK,Option.some.injEq] at e
  subst e
  exact r
 | .agg cs,a',v,e,r=>by
  simp only [purifyK] at e
  split at e
  ·rename_i cs' hcs
   simp only [Option.some.injEq] at e
   subst e
   obtain ⟨vs,hv,hl⟩:=r
   exact ⟨vs,hv,purifyKL_sound hr cs cs' vs hcs hl⟩
  ·simp at e
 | .tup cs,a',v,e,r=>by
  simp only [purifyK] at e
  split at e
  ·rename_i cs' hcs
   simp only [Option.some.injEq] at e
   subst e
   obtain ⟨vs,hv,hl⟩:=r
   exact ⟨vs,hv,purifyKL_sound hr cs cs' vs hcs hl⟩
  ·simp at e
 | .fn f cs,a',v,e,r=>by
  simp only [purifyK] at e
  split at e
  ·rename_i cs' hcs
   simp only [Option.some.injEq] at e
   subst e
   obtain ⟨vs,hv,hl⟩:=r
   exact ⟨vs,hv,purifyKL_sound hr cs cs' vs hcs hl⟩
  ·simp at e
 | .bnd f cs,a',v,e,r=>by
  simp only [purifyK] at e
  split at e
  ·rename_i cs' hcs
   simp only [Option.some.injEq] at e
   subst e
   obtain ⟨vs,hv,hl⟩:=r
   exact ⟨vs,hv,purifyKL_sound hr cs cs' vs hcs hl⟩
  ·simp at e
 | .iface t a,a',v,e,r=>by
  simp only [purifyK] at e
  split at e
  ·rename_i b hb
   simp only [Option.some.injEq] at e
   subst e
   obtain ⟨x,hv,hx⟩:=r
   exact ⟨x,hv,purifyK_sound hr a b x hb hx⟩
  ·simp at e
 | .ptr _ _,_,_,e,_=>by simp [purifyK] at e
 | .optr _ _ _ _,_,_,e,_=>by simp [purifyK] at e
 | .int _ _,_,_,e,r=>by simp only [purifyK,Option.some.injEq] at e;subst e;exact r
 | .bool _,_,_,e,r=>by simp only [purifyK,Option.some.injEq] at e;subst e;exact r
 | .str _,_,_,e,r=>by simp only [purifyK,Option.some.injEq] at e;subst e;exact r
 | .nilp,_,_,e,r=>by simp only [purifyK,Option.some.injEq] at e;subst e;exact r
 | .nilf,_,_,e,r=>by simp only [purifyK,Option.some.injEq] at e;subst e;exact r
 | .nili,_,_,e,r=>by simp only [purifyK,Option.some.injEq] at e;subst e;exact r
 | .emp _,_,_,e,r=>by simp only [purifyK,Option.some.injEq] at e;subst e;exact r
 | .nilm,_,_,e,r=>by simp only [purifyK,Option.some.injEq] at e;subst e;exact r
 | .rows _,_,_,e,r=>by simp only [purifyK,Option.some.injEq] at e;subst e;exact r
 | .rptr _ _,_,_,e,r=>by simp only [purifyK,Option.some.injEq] at e;subst e;exact r
 | .any,_,_,e,_=>by simp only [purifyK,Option.some.injEq] at e;subst e;exact trivial
theorem purifyKL_sound (hr:Rel μ h w):∀ (l l':List AV) (vs:List Value),purifyKL h l=some l'→RepL μ h w l vs→PRepL (Mut μ h) w l' vs
 | [],l',vs,e,r=>by
  simp only [purifyKL,Option.some.injEq] at e
  subst e
  exact r
 | a::r,l',vs,e,x=>by
  simp only [purifyKL] at e
  split at e
  ·rename_i a1 h1
   split at e
   ·rename_i r1 h2
    simp only [Option.some.injEq] at e
    subst e
    obtain ⟨v,vr,hv,x1,x2⟩:=x
    exact ⟨v,vr,hv,purifyK_sound hr a a1 v h1 x1,purifyKL_sound hr r r1 vr h2 x2⟩
   ·simp at e
  ·simp at e
end
theorem pur_sound (hr:Rel μ h w) {kn:Bool} {a a':AV} {v:Value} (e:pur kn h a=some a') (r:Rep μ h w a v):PRep (Mut μ h) w a' v:=by
 cases kn with
 | true=>exact purifyK_sound hr a a' v e r
 | false=>exact purify_sound hr a a' v e r
theorem purA_sound (hr:Rel μ h w) {nl:Bool} {l l':List AV} {vs:List Value} (e:purA nl h l=some l') (r:RepL μ h w l vs):PRepL (Mut μ h) w l' vs:=by
 cases nl with
 | true=>exact purifyKL_sound hr l l' vs e r
 | false=>exact purifyL_sound hr l l' vs e r
theorem pick_sound {c a b x:AV} {vc va vb:Value} (e:pick c a b=some x) (hc:Rep μ h w c vc) (ha:Rep μ h w a va) (hb:Rep μ h w b vb) :
  ∃ t,vc=.bool t∧Rep μ h w x (if t then va else vb):=by
 unfold pick at e
 split at e
 ·rename_i t
  simp only [Option.some.injEq] at e
  subst e
  refine ⟨t,hc,?_⟩
  cases t
  ·exact hb
  ·exact ha
 ·simp at e
theorem extract_sound {i:Nat} {a x:AV} {v:Value} (e:extractV i a=some x) (ha:Rep μ h w a v):∃ u,(Instr.extract v i).run P w=.ok u w∧Rep μ h w x u:=by
 unfold extractV at e
 split at e
 ·rename_i l
  obtain ⟨vs,rfl,hl⟩:=ha
  obtain ⟨u,h1,h2⟩:=(RepL.at l vs hl).2 i x e
  refine ⟨u,?_,h2⟩
  simp [Instr.extract,h1]
 ·simp at e
theorem addOff_sound {n:Nat} {a x:AV} {v:Value} (e:addOff n a=some x) (ha:Rep μ h w a v):∃ b o,v=.pointer (some ⟨b,o,none⟩)∧Rep μ h w x (.pointer (some ⟨b,o+n,none⟩)):=by
 unfold addOff at e
 split at e
 ·rename_i l o
  simp only [Option.some.injEq] at e
  subst e
  obtain ⟨cs,b,h1,h2,rfl⟩:=ha
  exact ⟨b,o,rfl,cs,b,h1,h2,rfl⟩
 ·rename_i r o
  simp only [Option.some.injEq] at e
  subst e
  obtain ⟨b,p,rfl,h1⟩:=ha
  exact ⟨b,p+o,rfl,b,p,by simp [Nat.add_assoc],h1⟩
 ·rename_i l m i o
  simp only [Option.some.injEq] at e
  subst e
  obtain ⟨z,rs,wr,b,h1,h2,rfl,h3⟩:=ha
  exact ⟨b,i*z+o,rfl,z,rs,wr,b,h1,h2,by simp [Nat.add_assoc],h3⟩
 ·rename_i t l o
  simp only [Option.some.injEq] at e
  subst e
  obtain ⟨cs,b,h1,h2,rfl,_⟩:=ha
  exact ⟨b,o,rfl,cs,b,h1,h2,rfl⟩
 ·simp at e
theorem fo_spec {t:TypeId} {f o:Nat} {u:TypeId} (e:fo P t f=some (o,u)) :
  ∃ fs x i,P.underlying t=some (.struct fs)∧fs[f]? = some x∧x.offset=o∧x.type=u∧P.info? x.type=some i∧i.size≠0:=by
 unfold fo at e
 split at e
 ·rename_i fs hu
  split at e
  ·rename_i x hx
   split at e
   ·rename_i i hi
    split at e
    ·simp at e
    ·rename_i hz
     simp only [Option.some.injEq,Prod.mk.injEq] at e
     exact ⟨fs,x,i,hu,hx,e.1,e.2,hi,hz⟩
   ·simp at e
  ·simp at e
 ·simp at e
theorem fieldA_sound {t:TypeId} {f:Nat} {a x:AV} {v:Value} (e:fieldA a (fo P t f)=some x) (ha:Rep μ h w a v) :
  ∃ u,(Instr.fieldAt t v f).run P w=.ok u w∧Rep μ h w x u:=by
 unfold fieldA at e
 split at e
 ·rename_i o u hf
  obtain ⟨fs,y,i,hu,hx,rfl,rfl,hi,hz⟩:=fo_spec hf
  obtain ⟨b,p,rfl,hr⟩:=addOff_sound e ha
  refine ⟨_,?_,hr⟩
  simp [Instr.fieldAt,run_underlying hu,hx,Instr.sureAddr,fieldPlace,sizeOf,typeInfo,hi,hz,add_none]
 ·simp at e
theorem part_run {t:TypeId} {cs:List AV} {o:Nat} {x:AV} {vs:List Value} (e:part (sh P t) cs o=some x) (hl:RepL μ h w cs vs) :
  ∃ u,(Go.part t vs.toArray o).run P w=.ok u w∧Rep μ h w x u:=by
 obtain ⟨_,hat⟩:=RepL.at cs vs hl
 rcases part_sound e hat with ⟨hs,u,h1,h2⟩ | ⟨us,hs,h1,h2⟩
 ·exact ⟨u,by simp [Go.part,sh_one hs,h1],h2⟩
 ·refine ⟨_,?_,h2⟩
  obtain ⟨h3,h4⟩:=sh_agg (w:=w) hs
  simp only [Go.part,Sem.run_bind,Result.andThen_ok,h3,if_true,h4,Sem.run_pure]
  congr 2
  apply Array.ext'
  simp only [List.extract_toArray,List.extract_eq_take_drop,Nat.add_sub_cancel_left]
  apply List.ext_getElem?
  intro j
  by_cases hj:j < us.length
  ·rw [List.getElem?_take,if_pos hj,List.getElem?_drop]
   rw [h1 j us[j] (List.getElem?_eq_getElem hj),List.getElem?_eq_getElem hj]
  ·rw [List.getElem?_take,if_neg hj,List.getElem?_eq_none (by omega)]
theorem fieldV_sound {t:TypeId} {f:Nat} {a x:AV} {v:Value} (e:fieldV P a (fo P t f)=some x) (ha:Rep μ h w a v) :
  ∃ u,(Instr.field t v f).run P w=.ok u w∧Rep μ h w x u:=by
 unfold fieldV at e
 split at e
 ·rename_i o u hf
  obtain ⟨fs,y,i,hu,hx,rfl,rfl,hi,hz⟩:=fo_spec hf
  split at e
  ·rename_i cs
   obtain ⟨vs,rfl,hl⟩:=ha
   obtain ⟨u,h1,h2⟩:=part_run e hl
   exact ⟨u,by simp [Instr.field,run_underlying hu,hx,asAgg,h1],h2⟩
  ·simp at e
 ·simp at e
theorem at?_spec {α:Type} {l:List α} {i:Int} {x:α} (e:at? l i=some x):0≤i∧l[i.toNat]? = some x∧i < (l.length:Int):=by
 unfold at? at e
 split at e
 ·rename_i hi
  have:=(List.getElem?_eq_some_iff.1 e).1
  exact ⟨hi,e,by omega⟩
 ·simp at e
theorem es_zero {t:TypeId} {z b:Nat} (e:es P t=some (z,b)):∃ u i y,P.underlying t=some (.slice u)∧P.info? u=some i∧i.size=z∧i.bytes=b∧i.zero=some y∧y.cells.size=z:=by
 unfold es at e
 split at e
 ·rename_i u hu
  split at e
  ·rename_i i hi
   split at e
   ·rename_i y hy
    split at e
    ·rename_i hz
     simp only [Option.some.injEq,Prod.mk.injEq] at e
     exact ⟨u,i,y,hu,hi,e.1,e.2,hy,by rw [hz];exact e.1⟩
    ·simp at e
   ·simp at e
  ·simp at e
 ·simp at e
theorem es_spec {t:TypeId} {z b:Nat} (e:es P t=some (z,b)):∃ u i,P.underlying t=some (.slice u)∧P.info? u=some i∧i.size=z∧i.bytes=b:=by
 obtain ⟨u,i,_,h1,h2,h3,h4,_⟩:=es_zero e
 exact ⟨u,i,h1,h2,h3,h4⟩
theorem ar_spec {t:TypeId} {n z:Nat} {u:TypeId} (e:ar P t=some (n,u,z)):∃ i,P.underlying t=some (.array n u)∧P.info? u=some i∧i.size=z:=by
 unfold ar at e
 split at e
 ·rename_i n' u' hu
  cases hi:P.info? u' with
  | none=>simp [hi] at e
  | some i =>
   simp only [hi,Option.map_some,Option.some.injEq,Prod.mk.injEq] at e
   obtain ⟨rfl,rfl,rfl⟩:=e
   exact ⟨i,hu,hi,rfl⟩
 ·simp at e
theorem bytes_get (s:List UInt8) (i:Nat):((⟨s.toArray⟩:ByteArray)[i]?)=s[i]? := by
 have hs:(⟨s.toArray⟩:ByteArray).size=s.length:=rfl
 by_cases hi:i < s.length
 ·rw [getElem?_pos (⟨s.toArray⟩:ByteArray) i (by omega),List.getElem?_eq_getElem hi]
  rfl
 ·rw [getElem?_neg (⟨s.toArray⟩:ByteArray) i (by omega),List.getElem?_eq_none (by omega)]
theorem indexS_sound {t:TypeId} {a i x:AV} {v vi:Value} (e:indexS P t i a=some x) (ha:Rep μ h w a v) (hi:Rep μ h w i vi) :
  ∃ u,(Instr.index t v vi).run P w=.ok u w∧Rep μ h w x u:=by
 unfold indexS at e
 split at e
 ·rename_i k i
  have:vi=.int k i:=hi
  subst this
  split at e
  ·rename_i s
   have:v=.string ⟨s.toArray⟩:=ha
   subst this
   split at e
   ·rename_i ht
    split at e
    ·rename_i b hb
     simp only [Option.some.injEq] at e
     subst e
     obtain ⟨h1,h2,_⟩:=at?_spec hb
     have hu:P.underlying t=some .string:=by
      unfold tk at ht
      split at ht
      ·assumption
      ·split at ht<;>simp at ht
      ·split at ht<;>simp at ht
      ·simp at ht
     refine ⟨.int .u8 (b.toNat:Int),?_,rfl⟩
     simp [Instr.index,asIntOf,run_underlying hu,h1,bytes_get,h2]
    ·simp at e
   ·simp at e
  ·rename_i cs
   split at e
   ·rename_i n u z har
    split at e
    ·rename_i hc
     obtain ⟨j,hu,hj,rfl⟩:=ar_spec har
     obtain ⟨vs,rfl,hl⟩:=ha
     obtain ⟨y,h1,h2⟩:=part_run e hl
     refine ⟨y,?_,h2⟩
     simp [Instr.index,asIntOf,run_underlying hu,hc,sizeOf,typeInfo,hj,h1]
    ·simp at e
   ·simp at e
  ·simp at e
 ·simp at e
theorem indexP_sound {t:TypeId} {a i x:AV} {v vi:Value} (e:indexP P t h i a=some x) (ha:Rep μ h w a v) (hi:Rep μ h w i vi) :
  ∃ u,(Instr.indexAt t v vi).run P w=.ok u w∧Rep μ h w x u:=by
 have rowsCase:∀ (k:IntKind) (i:Int) (rs:List (List AV)) (z by_:Nat) (row:List AV) (base:Option Addr) (cap:Nat),es P t=some (z,by_)→at? rs i=some row→rowOk z row=some x →
   (rs=[]∨∃ b o z,base=some ⟨b,o,none⟩∧PRows (Mut μ h) w z b rs o)→∃ u,(Instr.indexAt t (.slice base rs.length cap) (.int k i)).run P w=.ok u w∧Rep μ h w x u:=by
  intro k i rs z by_ row base cap hes hat hok hb
  obtain ⟨u,j,hu,hj,rfl,_⟩:=es_spec hes
  obtain ⟨h1,h2,h3⟩:=at?_spec hat
  unfold rowOk at hok
  split at hok
  ·rename_i hz
   simp only [Option.some.injEq] at hok
   subst hok
   rcases hb with rfl | ⟨b,o,z',rfl,hp⟩
   ·simp at h2
   ·obtain ⟨h4,_,h5⟩:=PRows.at rs o hp i.toNat row h2
    have e:z'=j.size:=by omega
    subst e
    refine ⟨.pointer (some ⟨b,o+i.toNat*j.size,none⟩),?_,⟨b,_,rfl,h5⟩⟩
    simp [Instr.indexAt,asIntOf,run_underlying hu,h1,h3,sizeOf,typeInfo,hj,add_none]
  ·simp at hok
 unfold indexP at e
 split at e
 ·rename_i k i
  have:vi=.int k i:=hi
  subst this
  split at e
  ·rename_i rs
   split at e
   ·rename_i z by_ hes
    split at e
    ·rename_i row hrow
     obtain ⟨base,cap,rfl,_,hb⟩:=ha
     exact rowsCase k i rs z by_ row base cap hes hrow e hb
    ·simp at e
   ·simp at e
  ·rename_i rs
   split at e
   ·rename_i z by_ hes
    split at e
    ·rename_i row hrow
     obtain ⟨base,rfl,hb⟩:=ha
     exact rowsCase k i rs z by_ row base rs.length hes hrow e hb
    ·simp at e
   ·simp at e
  ·rename_i l n
   split at e
   ·rename_i z by_ hes
    obtain ⟨u,j,hu,hj,rfl,_⟩:=es_spec hes
    split at e
    ·rename_i sz rs wr hl
     split at e
     ·rename_i hc
      obtain ⟨hn,rfl⟩:=hc
      split at e
      ·rename_i row hrow
       simp only [Option.some.injEq] at e
       subst e
       obtain ⟨h1,h2,h3⟩:=at?_spec hrow
       obtain ⟨z',rs',wr',base,cap,hl',hle,rfl,hv⟩:=ha
       rw [hl] at hl'
       simp only [Option.some.injEq,Blk.rows.injEq] at hl'
       obtain ⟨rfl,rfl,rfl⟩:=hl'
       obtain ⟨hcap,_,hb⟩:=hv hn.symm
       rcases hb with rfl | ⟨b,vs,T,rfl,hm,hw,_⟩
       ·have:rs.length=0:=by omega
        omega
       ·refine ⟨.pointer (some ⟨b,i.toNat*j.size,none⟩),?_,⟨j.size,rs,wr,b,hl,by omega,rfl,fun _=>hm⟩⟩
        simp [Instr.indexAt,asIntOf,run_underlying hu,h1,sizeOf,typeInfo,hj,add_none]
        omega
      ·simp at e
     ·simp at e
    ·simp at e
   ·simp at e
  ·rename_i l n c m
   split at e
   ·rename_i z by_ hes
    obtain ⟨u,j,hu,hj,rfl,_⟩:=es_spec hes
    split at e
    ·rename_i sz rs wr hl
     split at e
     ·rename_i hc
      obtain ⟨hn,rfl,hcm⟩:=hc
      split at e
      ·rename_i row hrow
       simp only [Option.some.injEq] at e
       subst e
       obtain ⟨h1,h2,h3⟩:=at?_spec hrow
       have hlen:(cut rs c (c+m)).length=m:=by unfold cut;simp;omega
       obtain ⟨z',rs',wr',base,cap,hl',hle,rfl,hv⟩:=ha
       rw [hl] at hl'
       simp only [Option.some.injEq,Blk.rows.injEq] at hl'
       obtain ⟨rfl,rfl,rfl⟩:=hl'
       obtain ⟨_,_,hb⟩:=hv hn.symm
       rw [hlen] at h3
       obtain ⟨b,vs,T,rfl,hm,hw,_⟩:=hb (by omega)
       refine ⟨.pointer (some ⟨b,c*j.size+i.toNat*j.size,none⟩),?_,⟨j.size,rs,wr,b,hl,by omega,by rw [Nat.add_mul];rfl,fun _=>hm⟩⟩
       simp [Instr.indexAt,asIntOf,run_underlying hu,h1,sizeOf,typeInfo,hj,add_none]
       omega
      ·simp at e
     ·simp at e
    ·simp at e
   ·simp at e
  ·rename_i l o
   split at e
   ·rename_i n u z har
    split at e
    ·rename_i hc
     simp only [Option.some.injEq] at e
     subst e
     obtain ⟨j,hu,hj,rfl⟩:=ar_spec har
     obtain ⟨cs,b,h1,h2,rfl⟩:=ha
     refine ⟨.pointer (some ⟨b,o+i.toNat*j.size,none⟩),?_,⟨cs,b,h1,h2,rfl⟩⟩
     simp [Instr.indexAt,asIntOf,run_underlying hu,Instr.sureAddr,hc,sizeOf,typeInfo,hj,add_none]
    ·simp at e
   ·simp at e
  ·simp at e
 ·simp at e
def OptRep (μ:Mp Bs) (h:Heap) (w:World):Option AV→Option Value→Prop
 | none,none=>True
 | some a,some v=>Rep μ h w a v
 | _,_=>False
theorem bound_spec {n:Nat} {x:Option AV} {vx:Option Value} {r:Option Int} (e:bound n x=some r) (hx:OptRep μ h w x vx) :
  (r=none∧vx=none)∨∃ k i,r=some i∧vx=some (.int k i)∧0≤i∧i≤(n:Int):=by
 unfold bound at e
 split at e
 ·cases vx with
  | none=>simp only [Option.some.injEq] at e;exact .inl ⟨e.symm,rfl⟩
  | some v=>exact hx.elim
 ·rename_i k i
  split at e
  ·rename_i hc
   cases vx with
   | none=>exact hx.elim
   | some v =>
    have:v=.int k i:=hx
    simp only [Option.some.injEq] at e
    exact .inr ⟨k,i,e.symm,by rw [this],hc.1,hc.2⟩
  ·simp at e
 ·simp at e
theorem bounds2_run {n m a b:Nat} {lo hi:Option AV} {vl vh:Option Value} (isS:Bool) (e:bounds2 n lo hi=some (a,b)) (hl:OptRep μ h w lo vl) (hh:OptRep μ h w hi vh) (hm:n≤m) :
  (Instr.sliceBounds isS n m vl vh none).run P w=.ok (a,b,m) w∧a≤b∧b≤n:=by
 unfold bounds2 at e
 split at e
 ·rename_i b' hb
  split at e
  ·rename_i a' ha
   simp only [Option.some.injEq,Prod.mk.injEq] at e
   obtain ⟨rfl,rfl⟩:=e
   have H:(vh=none∧b'=n)∨∃ k i,vh=some (.int k i)∧0≤i∧i≤(n:Int)∧b'=i.toNat:=by
    cases hbd:bound n hi with
    | none=>simp [hbd,high] at hb
    | some r =>
     rcases bound_spec hbd hh with ⟨rfl,rfl⟩ | ⟨k,i,rfl,rfl,h1,h2⟩
     ·simp only [hbd,high,Option.some.injEq] at hb
      exact .inl ⟨rfl,hb.symm⟩
     ·simp only [hbd,high,Option.some.injEq] at hb
      exact .inr ⟨k,i,rfl,h1,h2,hb.symm⟩
   have L:(vl=none∧a'=0)∨∃ k i,vl=some (.int k i)∧0≤i∧i≤(b':Int)∧a'=i.toNat:=by
    cases hbd:bound n lo with
    | none=>simp [hbd,low] at ha
    | some r =>
     rcases bound_spec hbd hl with ⟨rfl,rfl⟩ | ⟨k,i,rfl,rfl,h1,h2⟩
     ·simp only [hbd,low,Option.some.injEq] at ha
      exact .inl ⟨rfl,ha.symm⟩
     ·simp only [hbd,low] at ha
      split at ha
      ·rename_i h3
       simp only [Option.some.injEq] at ha
       exact .inr ⟨k,i,rfl,h1,h3,ha.symm⟩
      ·simp at ha
   rcases H with ⟨rfl,rfl⟩ | ⟨k,i,rfl,h1,h2,rfl⟩<;>rcases L with ⟨rfl,rfl⟩ | ⟨k',i',rfl,h3,h4,rfl⟩
   ·refine ⟨by simp [Instr.sliceBounds],by omega,by omega⟩
   ·refine ⟨by simp [Instr.sliceBounds,Instr.sliceBound,asIntOf,h3,h4],by omega,by omega⟩
   ·have:i≤(m:Int):=by omega
    refine ⟨by simp [Instr.sliceBounds,Instr.sliceBound,asIntOf,h1,this],by omega,by omega⟩
   ·have:i≤(m:Int):=by omega
    have h5:¬max i 0 < i':=by omega
    refine ⟨by simp [Instr.sliceBounds,Instr.sliceBound,asIntOf,h1,this,h3,h5],by omega,by omega⟩
  ·simp at e
 ·simp at e
theorem sliceBounds_hi {e e' m:Nat} {isS:Bool} {vl:Option Value} {vh:Value}:Instr.sliceBounds isS e m vl (some vh) none=Instr.sliceBounds isS e' m vl (some vh) none:=rfl
theorem boundsV_run {c m k a b:Nat} {lo hi:Option AV} {vl vh:Option Value} (e:boundsV c m lo hi=some (a,b)) (hl:OptRep μ h w lo vl) (hh:OptRep μ h w hi vh) (hm:c≤k) :
  (Instr.sliceBounds true m k vl vh none).run P w=.ok (a,b,k) w∧a≤b∧b≤c:=by
 cases hi with
 | none =>
  simp only [boundsV] at e
  split at e
  ·rename_i hc
   obtain ⟨h1,h2,h3⟩:=bounds2_run (P:=P) (m:=k) true e hl hh (by omega)
   exact ⟨h1,h2,by omega⟩
  ·simp at e
 | some x =>
  simp only [boundsV] at e
  cases vh with
  | none=>exact hh.elim
  | some v =>
   rw [sliceBounds_hi (e':=c)]
   exact bounds2_run (P:=P) (m:=k) true e hl hh hm
theorem cut_get {α:Type} (l:List α) (a b i:Nat):(cut l a b)[i]? = if i < b - a then l[a+i]? else none:=by
 unfold cut
 rw [List.getElem?_take]
 split
 ·rw [List.getElem?_drop]
 ·rfl
theorem cut_len {α:Type} (l:List α) (a b:Nat) (hb:b≤l.length):(cut l a b).length=b - a:=by
 unfold cut
 simp
 omega
theorem allLen_spec {z:Nat}:∀ {rs:List (List AV)},allLen z rs=true→∀ (i:Nat) (row:List AV),rs[i]? = some row→row.length=z
 | [],_,i,row,e=>by simp at e
 | r::rs,hx,i,row,e=>by
  simp only [allLen,Bool.and_eq_true,beq_iff_eq] at hx
  cases i with
  | zero=>simp only [List.getElem?_cons_zero,Option.some.injEq] at e;rw [←e];exact hx.1
  | succ i=>exact allLen_spec hx.2 i row (by simpa using e)
theorem tk_slice {t:TypeId} {z b:Nat} (e:tk P t=.slice z b):∃ u i,P.underlying t=some (.slice u)∧P.info? u=some i∧i.size=z∧i.bytes=b:=by
 unfold tk at e
 split at e
 ·simp at e
 ·rename_i u hu
  split at e
  ·rename_i i hi
   simp only [TK.slice.injEq] at e
   exact ⟨u,i,hu,hi,e.1,e.2⟩
  ·simp at e
 ·split at e<;>simp at e
 ·simp at e
theorem tk_arr {t:TypeId} {n:Nat} (e:tk P t=.arr n):∃ u i,P.underlying t=some (.array n u)∧P.info? u=some i:=by
 unfold tk at e
 split at e
 ·simp at e
 ·split at e<;>simp at e
 ·rename_i m u hu
  split at e
  ·rename_i i hi
   simp only [TK.arr.injEq] at e
   subst e
   exact ⟨u,i,hu,hi⟩
  ·simp at e
 ·simp at e
theorem tk_str {t:TypeId} (e:tk P t=.str):P.underlying t=some .string:=by
 unfold tk at e
 split at e
 ·assumption
 ·split at e<;>simp at e
 ·split at e<;>simp at e
 ·simp at e
theorem sliceS_sound {t:TypeId} {a x:AV} {lo hi:Option AV} {v:Value} {vl vh:Option Value} (ht:tk P t=.str) (e:sliceS lo hi a=some x) (ha:Rep μ h w a v) (hl:OptRep μ h w lo vl) (hh:OptRep μ h w hi vh) :
  ∃ u,(Instr.sliceAt t v vl vh none).run P w=.ok u w∧Rep μ h w x u:=by
 have hu:=tk_str ht
 unfold sliceS at e
 split at e
 ·rename_i s
  have:v=.string ⟨s.toArray⟩:=ha
  subst this
  split at e
  ·rename_i p q hb
   simp only [Option.some.injEq] at e
   subst e
   obtain ⟨h1,h2,h3⟩:=bounds2_run (P:=P) (m:=s.length) false hb hl hh (Nat.le_refl _)
   refine ⟨.string ((⟨s.toArray⟩:ByteArray).extract p q),?_,?_⟩
   ·have hs:(⟨s.toArray⟩:ByteArray).size=s.length:=rfl
    simp [Instr.sliceAt,run_underlying hu,Instr.slice,hs,h1]
   ·show _=_
    rw [Lib.extract_eq]
    rfl
  ·simp at e
 ·simp at e
theorem sliceR_sound {t:TypeId} {z bb:Nat} {a x:AV} {lo hi:Option AV} {v:Value} {vl vh:Option Value} (ht:tk P t=.slice z bb) (hr:Rel μ h w) (e:sliceR h z lo hi a=some x) (ha:Rep μ h w a v) (hl:OptRep μ h w lo vl) (hh:OptRep μ h w hi vh) :
  ∃ u,(Instr.sliceAt t v vl vh none).run P w=.ok u w∧Rep μ h w x u:=by
 obtain ⟨y,j,hu,hj,rfl,_⟩:=tk_slice ht
 have main:∀ (rs:List (List AV)) (base:Option Addr) (cap p q:Nat),bounds2 rs.length lo hi=some (p,q)→rs.length≤cap →
   (rs=[]∨∃ b o z',base=some ⟨b,o,none⟩∧PRows (Mut μ h) w z' b rs o)→(∀ (i:Nat) (row:List AV),rs[i]? = some row→row.length=j.size) →
   ∃ u,(Instr.sliceAt t (.slice base rs.length cap) vl vh none).run P w=.ok u w∧Rep μ h w (.rows (cut rs p q)) u:=by
  intro rs base cap p q hb hcap hm hz
  obtain ⟨h1,h2,h3⟩:=bounds2_run (P:=P) (m:=cap) true hb hl hh hcap
  refine ⟨.slice (if cap=p then base else base.map (·.add (p*j.size))) (q - p) (cap - p),?_,?_⟩
  ·simp [Instr.sliceAt,run_underlying hu,Instr.slice,h1,sizeOf,typeInfo,hj]
  ·refine ⟨_,cap - p,by rw [cut_len _ _ _ h3],by rw [cut_len _ _ _ h3];omega,?_⟩
   by_cases hpq:q=p
   ·left
    apply List.length_eq_zero_iff.1
    rw [cut_len _ _ _ h3]
    omega
   ·right
    have hne:cap≠p:=by omega
    rcases hm with rfl | ⟨b,o,z',rfl,hp⟩
    ·simp at h3;omega
    ·have hz':z'=j.size:=by
      have hlt:0 < rs.length:=by omega
      have h4:=(PRows.at rs o hp 0 _ (List.getElem?_eq_getElem hlt)).1
      have h5:=hz 0 _ (List.getElem?_eq_getElem hlt)
      omega
     subst hz'
     refine ⟨b,o+p*j.size,j.size,by simp [hne,add_none],PRows.of_at _ _ fun i row hi'=>?_⟩
     rw [cut_get] at hi'
     split at hi'
     ·have:=PRows.at rs o hp (p+i) row hi'
      rwa [show o+(p+i)*j.size=o+p*j.size+i*j.size from by rw [Nat.add_mul];omega] at this
     ·simp at hi'
 have view:∀ (l n c m:Nat) (rs:List (List AV)) (bd:Option (Nat×Nat)),VwRep μ h w l n c m v→h[l]? = some (.rows j.size rs true)→rs.length=n →
   (∀ p q,bd=some (p,q)→∀ cap,n - c≤cap→(Instr.sliceBounds true m cap vl vh none).run P w=.ok (p,q,cap) w∧p≤q∧q≤n - c)→viewOf l n c bd=some x →
   ∃ u,(Instr.sliceAt t v vl vh none).run P w=.ok u w∧Rep μ h w x u:=by
  intro l n c m rs bd hv hl' hn hbd hx
  obtain ⟨z2,rs2,wr2,base,cap,h1,h2,rfl,h4⟩:=hv
  rw [hl'] at h1
  simp only [Option.some.injEq,Blk.rows.injEq] at h1
  obtain ⟨rfl,rfl,rfl⟩:=h1
  obtain ⟨h5,h6,h7⟩:=h4 hn.symm
  cases bd with
  | none=>simp [viewOf] at hx
  | some pq =>
   obtain ⟨p,q⟩:=pq
   simp only [viewOf,Option.some.injEq] at hx
   subst hx
   obtain ⟨r1,r2,r3⟩:=hbd p q rfl cap (by omega)
   refine ⟨.slice (if cap=p then base else base.map (·.add (p*j.size))) (q - p) (cap - p),?_,?_⟩
   ·simp [Instr.sliceAt,run_underlying hu,Instr.slice,r1,sizeOf,typeInfo,hj]
   ·refine ⟨j.size,rs,true,_,cap - p,hl',by omega,rfl,fun _=>⟨by omega,by omega,fun h8=>?_⟩⟩
    obtain ⟨b,vs,T,rfl,s2,s3,s4⟩:=h7 (by omega)
    have hne:cap≠p:=by omega
    refine ⟨b,vs,T,?_,s2,s3,?_⟩
    ·simp [hne,add_none,Nat.add_mul]
    ·rw [show c+p+(cap - p)=c+cap by omega]
     exact s4
 unfold sliceR at e
 split at e
 ·rename_i rs
  split at e
  ·rename_i p q hb
   split at e
   ·rename_i hall
    simp only [Option.some.injEq] at e
    subst e
    obtain ⟨base,cap,rfl,hc,hm⟩:=ha
    exact main rs base cap p q hb hc hm (allLen_spec hall)
   ·simp at e
  ·simp at e
 ·rename_i rs
  split at e
  ·rename_i p q hb
   split at e
   ·rename_i hall
    simp only [Option.some.injEq] at e
    subst e
    obtain ⟨base,rfl,hm⟩:=ha
    exact main rs base rs.length p q hb (Nat.le_refl _) hm (allLen_spec hall)
   ·simp at e
  ·simp at e
 ·split at e
  ·rename_i pq hb
   obtain ⟨p,q⟩:=pq
   simp only [Option.some.injEq] at e
   subst e
   have hv:v=.slice none 0 0:=ha
   subst hv
   obtain ⟨h1,h2,h3⟩:=bounds2_run (P:=P) (m:=0) true hb hl hh (Nat.le_refl _)
   obtain rfl:p=0:=by omega
   obtain rfl:q=0:=by omega
   exact ⟨.slice none 0 0,by simp [Instr.sliceAt,run_underlying hu,Instr.slice,h1,sizeOf,typeInfo,hj],rfl⟩
  ·simp at e
 ·rename_i l n
  split at e
  ·rename_i y' rs hl'
   split at e
   ·rename_i hc
    obtain ⟨hn,rfl,hz⟩:=hc
    split at e
    ·rename_i p q hb
     simp only [Option.some.injEq] at e
     subst e
     obtain ⟨base,cap,rfl,hc,hm⟩:=own_frozen hr hl' hn hz ha
     refine main rs base cap p q hb hc (hm.imp id fun ⟨b,hb,hp⟩=>⟨b,0,_,hb,hp⟩) fun i row hrow=>?_
     rcases hm with rfl | ⟨b2,_,hp2⟩
     ·simp at hrow
     ·exact (PRows.at rs 0 hp2 i row hrow).1
    ·simp at e
   ·simp at e
  ·rename_i y' rs hl'
   split at e
   ·rename_i hc
    obtain ⟨hn,rfl⟩:=hc
    refine view l n 0 n _ _ ?_ hl' hn ?_ e
    ·obtain ⟨z2,rs2,wr2,base,cap,h1,h2,h3,h4⟩:=ha
     refine ⟨z2,rs2,wr2,base,cap,h1,h2,h3,fun h5=>?_⟩
     obtain ⟨q1,_,q2⟩:=h4 h5
     refine ⟨by omega,by omega,fun h6=>?_⟩
     rcases q2 with q2 | ⟨b,vs,T,q3,q4,q5,q6⟩
     ·omega
     ·exact ⟨b,vs,T,by simpa using q3,q4,q5,by simpa using q6⟩
    ·intro p q hb cap hcap
     exact bounds2_run (P:=P) true hb hl hh (by omega)
   ·simp at e
  ·simp at e
 ·rename_i l n c m
  split at e
  ·rename_i y' rs hl'
   split at e
   ·rename_i hc
    obtain ⟨hn,rfl⟩:=hc
    refine view l n c m _ _ ha hl' hn ?_ e
    intro p q hb cap hcap
    exact boundsV_run (P:=P) hb hl hh (by omega)
   ·simp at e
  ·simp at e
 ·simp at e
theorem blankRows (M:Nat→Nat→Prop) (w:World) (b:Nat):∀ (n o:Nat),PRows M w 0 b (List.replicate n []) o
 | 0,_=>trivial
 | n+1,o=>⟨rfl,rfl,trivial,blankRows M w b n (o+0)⟩
theorem sliceArr_sound {t:TypeId} {n:Nat} {a x:AV} {lo hi:Option AV} {v:Value} {vl vh:Option Value} (ht:tk P t=.arr n) (e:sliceArr n lo hi a=some x) (ha:Rep μ h w a v) (hl:OptRep μ h w lo vl) (hh:OptRep μ h w hi vh) :
  ∃ u,(Instr.sliceAt t v vl vh none).run P w=.ok u w∧Rep μ h w x u:=by
 obtain ⟨y,j,hu,hj⟩:=tk_arr ht
 unfold sliceArr at e
 split at e
 ·rename_i l o
  split at e
  ·rename_i p q hb
   simp only [Option.some.injEq] at e
   subst e
   obtain ⟨cs,b,_,_,rfl⟩:=ha
   obtain ⟨h1,h2,h3⟩:=bounds2_run (P:=P) (m:=n) false hb hl hh (Nat.le_refl _)
   refine ⟨.slice (some (if n=p then ⟨b,o,none⟩ else Addr.add ⟨b,o,none⟩ (p*j.size))) (q - p) (n - p),?_,?_⟩
   ·simp [Instr.sliceAt,run_underlying hu,Instr.sureAddr,h1,sizeOf,typeInfo,hj]
   ·refine ⟨_,n - p,by rw [List.length_replicate],by rw [List.length_replicate];omega,.inr ?_⟩
    by_cases hnp:n=p
    ·exact ⟨b,o,0,by simp [hnp],blankRows _ _ _ _ _⟩
    ·exact ⟨b,o+p*j.size,0,by simp [hnp,add_none],blankRows _ _ _ _ _⟩
  ·simp at e
 ·simp at e
theorem slice3_sound {t:TypeId} {lo hi mx a x:AV} {v vl vh vm:Value} (e:slice3 h lo hi mx (tk P t) a=some x) (ha:Rep μ h w a v) (hl:Rep μ h w lo vl) (hh:Rep μ h w hi vh) (hm:Rep μ h w mx vm) :
  ∃ u,(Instr.sliceAt t v (some vl) (some vh) (some vm)).run P w=.ok u w∧Rep μ h w x u:=by
 unfold slice3 at e
 split at e
 ·rename_i l n
  split at e
  ·rename_i z2 rs2 wr2 z bb hl2 ht
   obtain ⟨y,j,hu,hj,rfl,_⟩:=tk_slice ht
   split at e
   ·rename_i k1 i1 k2 i2 k3 i3
    split at e
    ·rename_i hc
     simp only [Option.some.injEq] at e
     subst e
     obtain ⟨z,rs,wr,base,cap,hl',hn,rfl,hv⟩:=ha
     rw [hl2] at hl'
     simp only [Option.some.injEq,Blk.rows.injEq] at hl'
     obtain ⟨rfl,rfl,rfl⟩:=hl'
     have e1:vl=.int k1 i1:=hl
     have e2:vh=.int k2 i2:=hh
     have e3:vm=.int k3 i3:=hm
     subst e1 e2 e3
     obtain ⟨c1,c2,c3,c4,c5⟩:=hc
     obtain ⟨h5,_,_⟩:=hv c1.symm
     have q3:0≤i3∧i3≤(cap:Int):=by omega
     have q2:0≤i2∧i2≤((i3.toNat:Nat):Int):=by omega
     have q1:0≤i1∧i1≤((i2.toNat:Nat):Int):=by omega
     have hso:(sizeOf y).run P w=.ok j.size w:=by simp [sizeOf,typeInfo,hj]
     exact ⟨_,by simp only [Instr.sliceAt,Sem.run_bind,run_underlying hu,Result.andThen_ok,Instr.slice,Instr.sliceBounds,Instr.sliceBound,asIntOf,pure_bind,Sem.run_ite,if_pos q3,if_pos q2,if_pos q1,Sem.run_pure,hso];rfl,trivial⟩
    ·simp at e
   ·simp at e
  ·simp at e
 ·simp at e
theorem slice2n_sound {t:TypeId} {hi mx a x:AV} {v vh vm:Value} (e:slice2n hi mx (tk P t) a=some x) (ha:Rep μ h w a v) (hh:Rep μ h w hi vh) (hm:Rep μ h w mx vm) :
  ∃ u,(Instr.sliceAt t v none (some vh) (some vm)).run P w=.ok u w∧Rep μ h w x u:=by
 unfold slice2n at e
 split at e
 ·split at e
  ·rename_i z bb k2 i2 k3 i3 ht
   obtain ⟨y,j,hu,hj,rfl,_⟩:=tk_slice ht
   split at e
   ·rename_i hc
    obtain ⟨rfl,rfl⟩:=hc
    simp only [Option.some.injEq] at e
    subst e
    have e0:v=.slice none 0 0:=ha
    have e2:vh=.int k2 0:=hh
    have e3:vm=.int k3 0:=hm
    subst e0 e2 e3
    have hso:(sizeOf y).run P w=.ok j.size w:=by simp [sizeOf,typeInfo,hj]
    refine ⟨.slice none 0 0,?_,rfl⟩
    simp [Instr.sliceAt,run_underlying hu,Instr.slice,Instr.sliceBounds,Instr.sliceBound,asIntOf,hso]
   ·simp at e
  ·simp at e
 ·simp at e
theorem lenV_sound {t:TypeId} {a x:AV} {v:Value} (e:lenV (tk P t) a=some x) (ha:Rep μ h w a v) (ty:TypeId) :
  ∃ u,(Builtin.len_ #[t] ty #[v]).run P w=.ok u w∧Rep μ h w x u:=by
 unfold lenV at e
 split at e
 ·rename_i s ht
  have:v=.string ⟨s.toArray⟩:=ha
  subst this
  simp only [Option.some.injEq] at e
  subst e
  have hs:(⟨s.toArray⟩:ByteArray).size=s.length:=rfl
  exact ⟨.int .i64 (s.length:Int),by simp [Builtin.len_,run_underlying (tk_str ht),goInt,hs],rfl⟩
 ·rename_i rs ht
  obtain ⟨y,j,hu,_⟩:=tk_slice ht
  obtain ⟨base,cap,rfl,_⟩:=ha
  simp only [Option.some.injEq] at e
  subst e
  exact ⟨.int .i64 (rs.length:Int),by simp [Builtin.len_,run_underlying hu,goInt],rfl⟩
 ·rename_i rs ht
  obtain ⟨y,j,hu,_⟩:=tk_slice ht
  obtain ⟨base,rfl,_⟩:=ha
  simp only [Option.some.injEq] at e
  subst e
  exact ⟨.int .i64 (rs.length:Int),by simp [Builtin.len_,run_underlying hu,goInt],rfl⟩
 ·rename_i l n ht
  obtain ⟨y,j,hu,_⟩:=tk_slice ht
  simp only [Option.some.injEq] at e
  subst e
  obtain ⟨z,rs,wr,base,cap,hl,_,rfl,hv⟩:=ha
  exact ⟨.int .i64 (n:Int),by simp [Builtin.len_,run_underlying hu,goInt],rfl⟩
 ·rename_i ht
  obtain ⟨y,j,hu,_⟩:=tk_slice ht
  have:v=.slice none 0 0:=ha
  subst this
  simp only [Option.some.injEq] at e
  subst e
  exact ⟨.int .i64 0,by simp [Builtin.len_,run_underlying hu,goInt],rfl⟩
 ·rename_i b ht
  obtain ⟨y,j,hu,_⟩:=tk_slice ht
  obtain ⟨base,cap,rfl,_⟩:=ha
  simp only [Option.some.injEq] at e
  subst e
  exact ⟨.int .i64 0,by simp [Builtin.len_,run_underlying hu,goInt],rfl⟩
 ·rename_i t' l n ht
  obtain ⟨y,j,hu,_⟩:=tk_slice ht
  simp only [Option.some.injEq] at e
  subst e
  obtain ⟨z,rs,wr,base,cap,hl,_,rfl,hv⟩:=ha
  exact ⟨.int .i64 (n:Int),by simp [Builtin.len_,run_underlying hu,goInt],rfl⟩
 ·rename_i l n a m ht
  obtain ⟨y,j,hu,_⟩:=tk_slice ht
  simp only [Option.some.injEq] at e
  subst e
  obtain ⟨z,rs,wr,base,cap,hl,_,rfl,hv⟩:=ha
  exact ⟨.int .i64 (m:Int),by simp [Builtin.len_,run_underlying hu,goInt],rfl⟩
 ·simp at e
theorem capV_sound {t:TypeId} {a x:AV} {v:Value} (e:capV (tk P t) a=some x) (ha:Rep μ h w a v) (ty:TypeId) :
  ∃ u,(Builtin.cap_ #[t] ty #[v]).run P w=.ok u w∧Rep μ h w x u:=by
 unfold capV at e
 split at e
 ·rename_i ht
  obtain ⟨y,j,hu,_⟩:=tk_slice ht
  have:v=.slice none 0 0:=ha
  subst this
  simp only [Option.some.injEq] at e
  subst e
  exact ⟨.int .i64 0,by simp [Builtin.cap_,run_underlying hu,goInt],rfl⟩
 ·simp at e
theorem minI_sound:∀ (r:List AV) (vs:List Value) (k:IntKind) (x:Int) (a:AV),minI k x r=some a→RepL μ h w r vs →
  ∃ u,(vs.foldlM Builtin.min2 (.int k x)).run P w=.ok u w∧Rep μ h w a u
 | [],vs,k,x,a,e,hr=>by
  have:vs=[]:=hr
  subst this
  simp only [minI,Option.some.injEq] at e
  subst e
  exact ⟨.int k x,rfl,rfl⟩
 | b::r,vs,k,x,a,e,hr=>by
  obtain ⟨v,vr,rfl,h1,h2⟩:=hr
  cases b with
  | int k' y =>
   have:v=.int k' y:=h1
   subst this
   simp only [minI] at e
   obtain ⟨u,h3,h4⟩:=minI_sound r vr k _ a e h2
   exact ⟨u,by simpa [Builtin.min2] using h3,h4⟩
  | _=>simp [minI] at e
theorem maxI_sound:∀ (r:List AV) (vs:List Value) (k:IntKind) (x:Int) (a:AV),maxI k x r=some a→RepL μ h w r vs →
  ∃ u,(vs.foldlM Builtin.max2 (.int k x)).run P w=.ok u w∧Rep μ h w a u
 | [],vs,k,x,a,e,hr=>by
  have:vs=[]:=hr
  subst this
  simp only [maxI,Option.some.injEq] at e
  subst e
  exact ⟨.int k x,rfl,rfl⟩
 | b::r,vs,k,x,a,e,hr=>by
  obtain ⟨v,vr,rfl,h1,h2⟩:=hr
  cases b with
  | int k' y =>
   have:v=.int k' y:=h1
   subst this
   simp only [maxI] at e
   obtain ⟨u,h3,h4⟩:=maxI_sound r vr k _ a e h2
   exact ⟨u,by simpa [Builtin.max2] using h3,h4⟩
  | _=>simp [maxI] at e
theorem minV_sound {l:List AV} {vs:List Value} {a:AV} (e:minV l=some a) (hr:RepL μ h w l vs) (at_:Array TypeId) (ty:TypeId) :
  ∃ u,(Builtin.min_ at_ ty vs.toArray).run P w=.ok u w∧Rep μ h w a u:=by
 cases l with
 | nil=>simp [minV] at e
 | cons b r =>
  obtain ⟨v,vr,rfl,h1,h2⟩:=hr
  cases b with
  | int k y =>
   have:v=.int k y:=h1
   subst this
   obtain ⟨u,h3,h4⟩:=minI_sound (P:=P) r vr k y a e h2
   exact ⟨u,by simpa [Builtin.min_] using h3,h4⟩
  | _=>simp [minV] at e
theorem maxV_sound {l:List AV} {vs:List Value} {a:AV} (e:maxV l=some a) (hr:RepL μ h w l vs) (at_:Array TypeId) (ty:TypeId) :
  ∃ u,(Builtin.max_ at_ ty vs.toArray).run P w=.ok u w∧Rep μ h w a u:=by
 cases l with
 | nil=>simp [maxV] at e
 | cons b r =>
  obtain ⟨v,vr,rfl,h1,h2⟩:=hr
  cases b with
  | int k y =>
   have:v=.int k y:=h1
   subst this
   obtain ⟨u,h3,h4⟩:=maxI_sound (P:=P) r vr k y a e h2
   exact ⟨u,by simpa [Builtin.max_] using h3,h4⟩
  | _=>simp [maxV] at e
theorem eqGuard_int (op:BinOp) (t:TypeId) (x y:Operand) (k k':IntKind) (a b:Int):(eqGuard op t x y (.int k a) (.int k' b)).run P w=.ok () w:=by
 cases op<;>simp [eqGuard]
theorem eqGuard_str (op:BinOp) (t:TypeId) (x y:Operand) (a b:ByteArray):(eqGuard op t x y (.string a) (.string b)).run P w=.ok () w:=by
 cases op<;>simp [eqGuard]
theorem aInt_sound {op:BinOp} {t:TypeId} {k:IntKind} {a b:Int} {x:AV} (e:aInt op k a b=some x) :
  ∃ u,(binOp op t (.int k a) (.int k b)).run P w=.ok u w∧Rep μ h w x u:=by
 cases op<;>simp only [aInt,reduceCtorEq,Option.some.injEq] at e
 case add=>subst e;exact ⟨_,by simp [binOp,Op.intArith];rfl,rfl⟩
 case sub=>subst e;exact ⟨_,by simp [binOp,Op.intArith];rfl,rfl⟩
 case mul=>subst e;exact ⟨_,by simp [binOp,Op.intArith];rfl,rfl⟩
 case quo =>
  split at e
  ·simp at e
  ·rename_i hb
   simp only [Option.some.injEq] at e
   subst e
   exact ⟨_,by simp [binOp,Op.intDiv,hb];rfl,rfl⟩
 case rem =>
  split at e
  ·simp at e
  ·rename_i hb
   simp only [Option.some.injEq] at e
   subst e
   exact ⟨_,by simp [binOp,Op.intDiv,hb],rfl⟩
 case eql=>subst e;exact ⟨_,by simp [binOp,Op.intCmp],rfl⟩
 case neq=>subst e;exact ⟨_,by simp [binOp,Op.intCmp],rfl⟩
 case lss=>subst e;exact ⟨_,by simp [binOp,Op.intCmp],rfl⟩
 case leq=>subst e;exact ⟨_,by simp [binOp,Op.intCmp],rfl⟩
 case gtr=>subst e;exact ⟨_,by simp [binOp,Op.intCmp],rfl⟩
 case geq=>subst e;exact ⟨_,by simp [binOp,Op.intCmp],rfl⟩
 case shl =>
  split at e
  ·simp at e
  ·rename_i hb
   simp only [Option.some.injEq] at e
   subst e
   exact ⟨_,by simp [binOp,Op.shift,hb];rfl,rfl⟩
 case shr =>
  split at e
  ·simp at e
  ·rename_i hb
   simp only [Option.some.injEq] at e
   subst e
   exact ⟨_,by simp [binOp,Op.shift,hb];rfl,rfl⟩
 case and=>subst e;exact ⟨_,by simp [binOp,Op.intBits];rfl,rfl⟩
 case or=>subst e;exact ⟨_,by simp [binOp,Op.intBits];rfl,rfl⟩
 case xor=>subst e;exact ⟨_,by simp [binOp,Op.intBits];rfl,rfl⟩
theorem aShift_sound {op:BinOp} {t:TypeId} {k k':IntKind} {a b:Int} {x:AV} (e:aShift op k a b=some x) :
  ∃ u,(binOp op t (.int k a) (.int k' b)).run P w=.ok u w∧Rep μ h w x u:=by
 cases op<;>simp only [aShift,reduceCtorEq] at e
 case shl =>
  split at e
  ·simp at e
  ·rename_i hb
   simp only [Option.some.injEq] at e
   subst e
   exact ⟨_,by simp [binOp,Op.shift,hb];rfl,rfl⟩
 case shr =>
  split at e
  ·simp at e
  ·rename_i hb
   simp only [Option.some.injEq] at e
   subst e
   exact ⟨_,by simp [binOp,Op.shift,hb];rfl,rfl⟩
theorem aStr_sound {op:BinOp} {t:TypeId} {a b:List UInt8} {x:AV} (e:aStr op a b=some x) :
  ∃ u,(binOp op t (.string ⟨a.toArray⟩) (.string ⟨b.toArray⟩)).run P w=.ok u w∧Rep μ h w x u:=by
 have ha:(⟨a.toArray⟩:ByteArray).size=a.length:=rfl
 have hb:(⟨b.toArray⟩:ByteArray).size=b.length:=rfl
 cases op<;>simp only [aStr,reduceCtorEq,Option.some.injEq] at e
 case add =>
  split at e
  ·rename_i hl
   simp only [Option.some.injEq] at e
   subst e
   have hm:¬(((a.length+b.length:Nat):Int) > IntKind.i64.max):=by
    have:IntKind.i64.max=9223372036854775807:=by decide
    rw [this]
    simp only [strMax] at hl
    omega
   refine ⟨.string ((⟨a.toArray⟩:ByteArray)++⟨b.toArray⟩),?_,?_⟩
   ·simp only [binOp,Op.stringOp,ha,hb,if_neg hm,Sem.run_pure]
   ·show _=_
    have e1:(⟨a.toArray⟩:ByteArray)++⟨b.toArray⟩=⟨(a++b).toArray⟩:=by
     apply ByteArray.ext
     rw [ByteArray.data_append]
     apply Array.ext'
     simp
    rw [e1]
  ·simp at e
 case eql=>subst e;exact ⟨_,by simp [binOp,Op.stringOp],rfl⟩
 case neq=>subst e;exact ⟨_,by simp [binOp,Op.stringOp],rfl⟩
 case lss=>subst e;exact ⟨_,by simp [binOp,Op.stringOp],rfl⟩
 case leq=>subst e;exact ⟨_,by simp [binOp,Op.stringOp],rfl⟩
 case gtr=>subst e;exact ⟨_,by simp [binOp,Op.stringOp],rfl⟩
 case geq=>subst e;exact ⟨_,by simp [binOp,Op.stringOp],rfl⟩
theorem fk_int {t:TypeId} (e:fkOf P t=some .int):∃ k,P.underlying t=some (.int k):=by
 unfold fkOf at e;split at e<;>simp_all
theorem fk_bool {t:TypeId} (e:fkOf P t=some .bool):P.underlying t=some .bool:=by
 unfold fkOf at e;split at e<;>simp_all
theorem fk_str {t:TypeId} (e:fkOf P t=some .str):P.underlying t=some .string:=by
 unfold fkOf at e;split at e<;>simp_all
theorem fk_plain {t:TypeId} {k:FK} (e:fkOf P t=some k):(isAgg t).run P w=.ok false w:=by
 unfold fkOf at e;split at e<;>simp_all [isAgg,underlying]
theorem eqCell_sound {t:TypeId} {k:FK} {a b:AV} {r:Bool} {va vb:Value} (d:Nat) (hk:fkOf P t=some k) (e:eqCell k a b=some r) (ha:Rep μ h w a va) (hb:Rep μ h w b vb) :
  (Op.equalIn (d+1) t va vb).run P w=.ok r w:=by
 unfold eqCell at e
 split at e
 ·rename_i k1 x k2 y
  obtain ⟨k0,hu⟩:=fk_int hk
  have e1:va=.int k1 x:=ha
  have e2:vb=.int k2 y:=hb
  split at e
  ·rename_i hkk
   subst hkk e1 e2
   simp only [Option.some.injEq] at e
   subst e
   exact run_equalIn_int w d t k1 k0 x y hu
  ·simp at e
 ·rename_i x y
  have e1:va=.bool x:=ha
  have e2:vb=.bool y:=hb
  subst e1 e2
  simp only [Option.some.injEq] at e
  subst e
  exact run_equalIn_bool' w d t x y (fk_bool hk)
 ·rename_i x y
  have e1:va=.string ⟨x.toArray⟩:=ha
  have e2:vb=.string ⟨y.toArray⟩:=hb
  subst e1 e2
  simp only [Option.some.injEq] at e
  subst e
  rw [run_equalIn_string w d t _ _ (fk_str hk)]
  simp
 ·simp at e
theorem eqFields_sound (d:Nat) (xs ys:List Value):∀ (fs:List Field) (n:Nat) (ks:List FK) (a b:List AV) (r:Bool),flatFields P n fs=some ks→eqCells ks a b=some r →
  RepL μ h w a (xs.drop n)→RepL μ h w b (ys.drop n)→(Op.eqFields (d+1) xs.toArray ys.toArray fs).run P w=.ok r w
 | [],n,ks,a,b,r,hf,e,_,_=>by
  simp only [flatFields,Option.some.injEq] at hf
  subst hf
  cases a<;>cases b<;>simp [eqCells] at e
  subst e
  simp [Op.eqFields]
 | f::fs,n,ks,a,b,r,hf,e,ha,hb=>by
  simp only [flatFields] at hf
  split at hf
  ·rename_i hc
   split at hf
   ·rename_i k hk
    split at hf
    ·rename_i ks' hks
     simp only [Option.some.injEq] at hf
     subst hf
     cases a with
     | nil=>simp [eqCells] at e
     | cons a0 a =>
      cases b with
      | nil=>simp [eqCells] at e
      | cons b0 b =>
       simp only [eqCells] at e
       split at e
       ·rename_i x hx
        split at e
        ·rename_i y hy
         simp only [Option.some.injEq] at e
         obtain ⟨va,xr,h1,h2,h3⟩:=ha
         obtain ⟨vb,yr,h4,h5,h6⟩:=hb
         have hxn:xs[n]? = some va:=by
          have:=congrArg (fun l=>l[0]?) h1
          simpa using this
         have hyn:ys[n]? = some vb:=by
          have:=congrArg (fun l=>l[0]?) h4
          simpa using this
         have hxd:xs.drop (n+1)=xr:=by
          rw [←List.drop_drop,h1];rfl
         have hyd:ys.drop (n+1)=yr:=by
          rw [←List.drop_drop,h4];rfl
         have ih:=eqFields_sound d xs ys fs (n+1) ks' a b y hks hy (by rw [hxd];exact h3) (by rw [hyd];exact h6)
         have hp1:(Go.part f.type xs.toArray f.offset).run P w=.ok va w:=by simp [Go.part,fk_plain hk,hc.1,hxn]
         have hp2:(Go.part f.type ys.toArray f.offset).run P w=.ok vb w:=by simp [Go.part,fk_plain hk,hc.1,hyn]
         have he:=eqCell_sound d hk hx h2 h5
         rw [Op.eqFields,if_pos hc.2]
         simp only [Sem.run_bind,hp1,hp2,he,Result.andThen_ok,Sem.run_ite]
         cases x
         ·simp [←e]
         ·simp [ih,←e]
        ·simp at e
       ·simp at e
    ·simp at hf
   ·simp at hf
  ·simp at hf
theorem eqCells_app:∀ (ks l:List FK) (a b:List AV) (r:Bool),eqCells (ks++l) a b=some r→∃ a1 a2 b1 b2 r1 r2,a=a1++a2∧b=b1++b2∧a1.length=ks.length∧b1.length=ks.length∧eqCells ks a1 b1=some r1∧eqCells l a2 b2=some r2∧r=(r1&&r2)
 | [],l,a,b,r,e=>⟨[],a,[],b,true,r,rfl,rfl,rfl,rfl,rfl,e,by simp⟩
 | k::ks,l,[],b,r,e=>by cases b<;>simp [eqCells] at e
 | k::ks,l,a0::a,[],r,e=>by simp [eqCells] at e
 | k::ks,l,a0::a,b0::b,r,e=>by
  simp only [List.cons_append,eqCells] at e
  split at e
  ·rename_i x hx
   split at e
   ·rename_i y hy
    obtain ⟨a1,a2,b1,b2,r1,r2,rfl,rfl,h3,h4,h5,h6,rfl⟩:=eqCells_app ks l a b y hy
    refine ⟨a0::a1,a2,b0::b1,b2,x&&r1,r2,rfl,rfl,by simp [h3],by simp [h4],by simp only [eqCells,hx,h5],h6,?_⟩
    simp only [Option.some.injEq] at e
    rw [←e,Bool.and_assoc]
   ·simp at e
  ·simp at e
theorem repL_split:∀ (a1 a2:List AV) (vs:List Value),RepL μ h w (a1++a2) vs→∃ v1 v2,vs=v1++v2∧v1.length=a1.length∧RepL μ h w a1 v1∧RepL μ h w a2 v2
 | [],a2,vs,r=>⟨[],vs,rfl,rfl,rfl,r⟩
 | a::a1,a2,vs,r=>by
  obtain ⟨v,vr,rfl,h1,h2⟩:=r
  obtain ⟨v1,v2,rfl,h3,h4,h5⟩:=repL_split a1 a2 vr h2
  exact ⟨v::v1,v2,rfl,by simp [h3],⟨v,v1,rfl,h1,h4⟩,h5⟩
theorem flatSub_spec {t:TypeId} {ks:List FK} (e:flatSub P t=some ks):∃ fs:Array Field,P.underlying t=some (.struct fs)∧sh P t=some (.agg ks.length)∧P.stoodInHeld t=false∧flatFields P 0 fs.toList=some ks:=by
 unfold flatSub at e
 split at e
 ·rename_i fs n hu hs
  split at e
  ·rename_i hc
   split at e
   ·rename_i l hl
    split at e
    ·rename_i hn
     obtain rfl:=Option.some.inj e
     exact ⟨fs,hu,by rw [hn];exact hs,hc,hl⟩
    ·simp at e
   ·simp at e
  ·simp at e
 ·simp at e
theorem eqFields2_sound (d:Nat) (xs ys:List Value):∀ (fs:List Field) (n:Nat) (ks:List FK) (a b:List AV) (r:Bool),flatFields2 P n fs=some ks→eqCells ks a b=some r →
  RepL μ h w a (xs.drop n)→RepL μ h w b (ys.drop n)→(Op.eqFields (d+2) xs.toArray ys.toArray fs).run P w=.ok r w
 | [],n,ks,a,b,r,hf,e,_,_=>by
  simp only [flatFields2,Option.some.injEq] at hf
  subst hf
  cases a<;>cases b<;>simp [eqCells] at e
  subst e
  simp [Op.eqFields]
 | f::fs,n,ks,a,b,r,hf,e,ha,hb=>by
  simp only [flatFields2] at hf
  split at hf
  ·rename_i hc
   split at hf
   ·rename_i k hk
    split at hf
    ·rename_i ks' hks
     simp only [Option.some.injEq] at hf
     subst hf
     obtain ⟨a1,a2,b1,b2,x,y,rfl,rfl,l1,l2,hx,hy,rfl⟩:=eqCells_app [k] ks' a b r e
     obtain ⟨a0,rfl⟩:=List.length_eq_one_iff.1 l1
     obtain ⟨b0,rfl⟩:=List.length_eq_one_iff.1 l2
     obtain ⟨va,xr,h1,h2,h3⟩:=ha
     obtain ⟨vb,yr,h4,h5,h6⟩:=hb
     have hx':eqCell k a0 b0=some x:=by
      simp only [eqCells] at hx
      split at hx
      ·rename_i z hz;simpa [hz] using hx
      ·simp at hx
     have hxn:xs[n]? = some va:=by
      have:=congrArg (fun l=>l[0]?) h1
      simpa using this
     have hyn:ys[n]? = some vb:=by
      have:=congrArg (fun l=>l[0]?) h4
      simpa using this
     have hxd:xs.drop (n+1)=xr:=by rw [←List.drop_drop,h1];rfl
     have hyd:ys.drop (n+1)=yr:=by rw [←List.drop_drop,h4];rfl
     have ih:=eqFields2_sound d xs ys fs (n+1) ks' a2 b2 y hks hy (by rw [hxd];exact h3) (by rw [hyd];exact h6)
     have hp1:(Go.part f.type xs.toArray f.offset).run P w=.ok va w:=by simp [Go.part,fk_plain hk,hc.1,hxn]
     have hp2:(Go.part f.type ys.toArray f.offset).run P w=.ok vb w:=by simp [Go.part,fk_plain hk,hc.1,hyn]
     have he:=eqCell_sound (d+1) hk hx' h2 h5
     rw [Op.eqFields,if_pos hc.2]
     simp only [Sem.run_bind,hp1,hp2,he,Result.andThen_ok,Sem.run_ite]
     cases x
     ·simp
     ·simp [ih]
    ·simp at hf
   ·split at hf
    ·rename_i l hl
     split at hf
     ·rename_i ks' hks
      simp only [Option.some.injEq] at hf
      subst hf
      obtain ⟨gs,hu,hsh,hst,hfl⟩:=flatSub_spec hl
      obtain ⟨a1,a2,b1,b2,x,y,rfl,rfl,l1,l2,hx,hy,rfl⟩:=eqCells_app l ks' a b r e
      obtain ⟨v1,v2,h1,n1,h2,h3⟩:=repL_split a1 a2 _ ha
      obtain ⟨u1,u2,h4,n2,h5,h6⟩:=repL_split b1 b2 _ hb
      have hxd:xs.drop (n+l.length)=v2:=by rw [←List.drop_drop,h1,List.drop_left' (by omega)]
      have hyd:ys.drop (n+l.length)=u2:=by rw [←List.drop_drop,h4,List.drop_left' (by omega)]
      have ih:=eqFields2_sound d xs ys fs (n+l.length) ks' a2 b2 y hks hy (by rw [hxd];exact h3) (by rw [hyd];exact h6)
      obtain ⟨g1,g2⟩:=sh_agg (P:=P) (w:=w) hsh
      have ex1:xs.toArray.extract n (n+l.length)=v1.toArray:=by
       apply Array.ext'
       simp only [List.extract_toArray,List.extract_eq_take_drop,Nat.add_sub_cancel_left]
       rw [h1,List.take_left' (by omega)]
      have ex2:ys.toArray.extract n (n+l.length)=u1.toArray:=by
       apply Array.ext'
       simp only [List.extract_toArray,List.extract_eq_take_drop,Nat.add_sub_cancel_left]
       rw [h4,List.take_left' (by omega)]
      have hp1:(Go.part f.type xs.toArray f.offset).run P w=.ok (.agg v1.toArray) w:=by
       simp only [Go.part,Sem.run_bind,Result.andThen_ok,g1,if_true,g2,Sem.run_pure,hc.1,ex1]
      have hp2:(Go.part f.type ys.toArray f.offset).run P w=.ok (.agg u1.toArray) w:=by
       simp only [Go.part,Sem.run_bind,Result.andThen_ok,g1,if_true,g2,Sem.run_pure,hc.1,ex2]
      have hfo:P.fieldsOf f.type=gs:=by unfold Program.fieldsOf;rw [hu]
      have he:(Op.equalIn (d+2) f.type (.agg v1.toArray) (.agg u1.toArray)).run P w=.ok x w:=by
       rw [run_equalIn_agg (P:=P) w (d+1) f.type _ _ (by rw [hfo];exact hu) hst,hfo]
       exact eqFields_sound d v1 u1 gs.toList 0 l a1 b1 x hfl hx (by simpa using h2) (by simpa using h5)
      rw [Op.eqFields,if_pos hc.2]
      simp only [Sem.run_bind,hp1,hp2,he,Result.andThen_ok,Sem.run_ite]
      cases x
      ·simp
      ·simp [ih]
     ·simp at hf
    ·simp at hf
  ·simp at hf
theorem flat_spec {t:TypeId} {ks:List FK} (e:flat P t=some ks):∃ fs:Array Field,P.underlying t=some (.struct fs)∧P.stoodInHeld t=false∧P.eqGuardType P.depth t=false∧flatFields2 P 0 fs.toList=some ks:=by
 unfold flat at e
 split at e
 ·rename_i fs hu
  split at e
  ·rename_i hc
   exact ⟨fs,hu,hc.1,hc.2,e⟩
  ·simp at e
 ·simp at e
theorem ck_spec {t:TypeId}:match ck P t with
  | .bool=>P.underlying t=some .bool
  | .iface=>∃ ms,P.underlying t=some (.interface ms)
  | .ptr=>∃ e,P.underlying t=some (.pointer e)
  | .fn=>∃ a b c,P.underlying t=some (.func a b c)
  | .map=>∃ a b,P.underlying t=some (.map a b)
  | .flat ks=>flat P t=some ks
  | .no=>True:=by
 unfold ck
 cases hu:P.underlying t with
 | none=>simp only [];cases flat P t<;>simp
 | some d=>cases d<;>simp only []<;>first
  | exact ⟨_,rfl⟩
  | exact ⟨_,_,rfl⟩
  | exact ⟨_,_,_,rfl⟩
  | rfl
  | (cases flat P t<;>simp)
theorem eq_ii (d:Nat) {t:TypeId} {ms} (hu:P.underlying t=some (.interface ms)):(Op.equalIn (d+1) t .nilIface .nilIface).run P w=.ok true w:=by simp [Op.equalIn,run_underlying hu]
theorem eq_iv (d:Nat) {t:TypeId} {ms} (hu:P.underlying t=some (.interface ms)) (u:TypeId) (x:Value):(Op.equalIn (d+1) t .nilIface (.iface u x)).run P w=.ok false w:=by simp [Op.equalIn,run_underlying hu]
theorem eq_vi (d:Nat) {t:TypeId} {ms} (hu:P.underlying t=some (.interface ms)) (u:TypeId) (x:Value):(Op.equalIn (d+1) t (.iface u x) .nilIface).run P w=.ok false w:=by simp [Op.equalIn,run_underlying hu]
theorem eq_pp (d:Nat) {t e:TypeId} (hu:P.underlying t=some (.pointer e)):(Op.equalIn (d+1) t (.pointer none) (.pointer none)).run P w=.ok true w:=by simp [Op.equalIn,run_underlying hu]
theorem eq_pa (d:Nat) {t e:TypeId} (hu:P.underlying t=some (.pointer e)) (a:Addr):(Op.equalIn (d+1) t (.pointer none) (.pointer (some a))).run P w=.ok false w:=by simp [Op.equalIn,run_underlying hu]
theorem eq_ap (d:Nat) {t e:TypeId} (hu:P.underlying t=some (.pointer e)) (a:Addr):(Op.equalIn (d+1) t (.pointer (some a)) (.pointer none)).run P w=.ok false w:=by simp [Op.equalIn,run_underlying hu]
theorem eq_ff (d:Nat) {t:TypeId} {x y z} (hu:P.underlying t=some (.func x y z)):(Op.equalIn (d+1) t .nilFunc .nilFunc).run P w=.ok true w:=by simp [Op.equalIn,run_underlying hu]
theorem eq_vf (d:Nat) {t:TypeId} {x y z} (hu:P.underlying t=some (.func x y z)) (f:Fn) (a b:Array Value):(Op.equalIn (d+1) t (.func f a b) .nilFunc).run P w=.ok false w:=by simp [Op.equalIn,run_underlying hu]
theorem eq_fv (d:Nat) {t:TypeId} {x y z} (hu:P.underlying t=some (.func x y z)) (f:Fn) (a b:Array Value):(Op.equalIn (d+1) t .nilFunc (.func f a b)).run P w=.ok false w:=by simp [Op.equalIn,run_underlying hu]
theorem eq_mm (d:Nat) {t:TypeId} {x y} (hu:P.underlying t=some (.map x y)):(Op.equalIn (d+1) t (.map none) (.map none)).run P w=.ok true w:=by simp [Op.equalIn,run_underlying hu]
theorem eq_mn (d:Nat) {t:TypeId} {x y} (hu:P.underlying t=some (.map x y)) (b:Nat):(Op.equalIn (d+1) t (.map (some b)) (.map none)).run P w=.ok false w:=by simp [Op.equalIn,run_underlying hu]
theorem eql_run {t:TypeId} {va vb:Value} {r:Bool} (h1:binOp .eql t va vb=(do pure (.bool (←Op.equal t va vb)))) (h2:(Op.equalIn (9999+1) t va vb).run P w=.ok r w):∀ z,z=r→(binOp .eql t va vb).run P w=.ok (.bool z) w:=by
 rintro z rfl
 rw [h1]
 simp only [Op.equal,Op.maxDepth,Sem.run_bind]
 rw [h2];rfl
theorem neq_run {t:TypeId} {va vb:Value} {r:Bool} (h1:binOp .neq t va vb=(do pure (.bool (!(←Op.equal t va vb))))) (h2:(Op.equalIn (9999+1) t va vb).run P w=.ok r w):(binOp .neq t va vb).run P w=.ok (.bool (!r)) w:=by
 rw [h1]
 simp only [Op.equal,Op.maxDepth,Sem.run_bind]
 rw [h2];rfl
theorem eqV_sound {t:TypeId} {kc:Bool} {x y:Operand} {a b:AV} {r:Bool} {va vb:Value} (op:BinOp) (hkc:kc=(isConst x||isConst y)) (e:eqV kc (ck P t) a b=some r) (ha:Rep μ h w a va) (hb:Rep μ h w b vb) :
  (eqGuard op t x y va vb).run P w=.ok () w∧(∀ z,z=r→(binOp .eql t va vb).run P w=.ok (.bool z) w)∧(binOp .neq t va vb).run P w=.ok (.bool (!r)) w:=by
 have hs:=ck_spec (P:=P) (t:=t)
 unfold eqV at e
 split at e
 ·rename_i p q hck
  rw [hck] at hs
  have e1:va=.bool p:=ha
  have e2:vb=.bool q:=hb
  subst e1 e2
  simp only [Option.some.injEq] at e
  subst e
  refine ⟨by cases op<;>simp [eqGuard],?_,?_⟩
  ·exact eql_run rfl (run_equalIn_bool' w 9999 t p q hs)
  ·exact neq_run rfl (run_equalIn_bool' w 9999 t p q hs)
 ·rename_i ks p q hck
  rw [hck] at hs
  obtain ⟨fs,hu,h1,h2,h3⟩:=flat_spec hs
  obtain ⟨xs,rfl,hxs⟩:=ha
  obtain ⟨ys,rfl,hys⟩:=hb
  have hfo:P.fieldsOf t=fs:=by unfold Program.fieldsOf;rw [hu]
  have he:=run_equalIn_agg (P:=P) w 9999 t xs.toArray ys.toArray (by rw [hfo];exact hu) h1
  rw [hfo,eqFields2_sound (P:=P) 9997 xs ys fs.toList 0 ks p q r h3 e (by simpa using hxs) (by simpa using hys)] at he
  refine ⟨run_eqGuard_agg w op t x y _ _ h2,?_,?_⟩
  ·rintro z rfl
   rw [run_eql_struct,he];rfl
  ·rw [run_neq_struct,he];rfl
 ·rename_i hck
  rw [hck] at hs
  obtain ⟨ms,hu⟩:=hs
  have e1:va=.nilIface:=ha
  have e2:vb=.nilIface:=hb
  subst e1 e2
  split at e
  ·rename_i hk
   simp only [Option.some.injEq] at e
   subst e
   have he:=eq_ii (P:=P) (w:=w) 9999 hu
   refine ⟨?_,?_,?_⟩
   ·rw [hkc] at hk
    cases x<;>cases y<;>simp [isConst] at hk<;>cases op<;>simp [eqGuard]
   ·exact eql_run rfl he
   ·exact neq_run rfl he
  ·simp at e
 ·rename_i u q hck
  rw [hck] at hs
  obtain ⟨ms,hu⟩:=hs
  have e1:va=.nilIface:=ha
  obtain ⟨x',rfl,_⟩:=hb
  subst e1
  simp only [Option.some.injEq] at e
  subst e
  have he:=eq_iv (P:=P) (w:=w) 9999 hu u x'
  exact ⟨by cases op<;>simp [eqGuard],eql_run rfl he,neq_run rfl he⟩
 ·rename_i u q hck
  rw [hck] at hs
  obtain ⟨ms,hu⟩:=hs
  have e1:vb=.nilIface:=hb
  obtain ⟨x',rfl,_⟩:=ha
  subst e1
  simp only [Option.some.injEq] at e
  subst e
  have he:=eq_vi (P:=P) (w:=w) 9999 hu u x'
  exact ⟨by cases op<;>simp [eqGuard],eql_run rfl he,neq_run rfl he⟩
 ·rename_i hck
  rw [hck] at hs
  obtain ⟨u,hu⟩:=hs
  have e1:va=.pointer none:=ha
  have e2:vb=.pointer none:=hb
  subst e1 e2
  simp only [Option.some.injEq] at e
  subst e
  have he:=eq_pp (P:=P) (w:=w) 9999 hu
  exact ⟨by cases op<;>simp [eqGuard],eql_run rfl he,neq_run rfl he⟩
 ·rename_i l o hck
  rw [hck] at hs
  obtain ⟨u,hu⟩:=hs
  have e1:va=.pointer none:=ha
  obtain ⟨_,b,_,_,rfl⟩:=hb
  subst e1
  simp only [Option.some.injEq] at e
  subst e
  have he:=eq_pa (P:=P) (w:=w) 9999 hu ⟨b,o,none⟩
  exact ⟨by cases op<;>simp [eqGuard],eql_run rfl he,neq_run rfl he⟩
 ·rename_i l o hck
  rw [hck] at hs
  obtain ⟨u,hu⟩:=hs
  have e1:vb=.pointer none:=hb
  obtain ⟨_,b,_,_,rfl⟩:=ha
  subst e1
  simp only [Option.some.injEq] at e
  subst e
  have he:=eq_ap (P:=P) (w:=w) 9999 hu ⟨b,o,none⟩
  exact ⟨by cases op<;>simp [eqGuard],eql_run rfl he,neq_run rfl he⟩
 ·rename_i l n i o hck
  rw [hck] at hs
  obtain ⟨u,hu⟩:=hs
  have e1:vb=.pointer none:=hb
  obtain ⟨z,rs,wr,b,_,_,rfl,_⟩:=ha
  subst e1
  simp only [Option.some.injEq] at e
  subst e
  have he:=eq_ap (P:=P) (w:=w) 9999 hu ⟨b,i*z+o,none⟩
  exact ⟨by cases op<;>simp [eqGuard],eql_run rfl he,neq_run rfl he⟩
 ·rename_i row o hck
  rw [hck] at hs
  obtain ⟨u,hu⟩:=hs
  have e1:vb=.pointer none:=hb
  obtain ⟨b,p,rfl,_⟩:=ha
  subst e1
  simp only [Option.some.injEq] at e
  subst e
  have he:=eq_ap (P:=P) (w:=w) 9999 hu ⟨b,p+o,none⟩
  exact ⟨by cases op<;>simp [eqGuard],eql_run rfl he,neq_run rfl he⟩
 ·rename_i t0 l o hck
  rw [hck] at hs
  obtain ⟨u,hu⟩:=hs
  have e1:vb=.pointer none:=hb
  obtain ⟨_,b,_,_,rfl,_⟩:=ha
  subst e1
  simp only [Option.some.injEq] at e
  subst e
  have he:=eq_ap (P:=P) (w:=w) 9999 hu ⟨b,o,none⟩
  exact ⟨by cases op<;>simp [eqGuard],eql_run rfl he,neq_run rfl he⟩
 ·rename_i hck
  rw [hck] at hs
  obtain ⟨u1,u2,u3,hu⟩:=hs
  have e1:va=.nilFunc:=ha
  have e2:vb=.nilFunc:=hb
  subst e1 e2
  simp only [Option.some.injEq] at e
  subst e
  have he:=eq_ff (P:=P) (w:=w) 9999 hu
  exact ⟨by cases op<;>simp [eqGuard],eql_run rfl he,neq_run rfl he⟩
 ·rename_i f cs hck
  rw [hck] at hs
  obtain ⟨u1,u2,u3,hu⟩:=hs
  have e2:vb=.nilFunc:=hb
  obtain ⟨vs,rfl,_⟩:=ha
  subst e2
  simp only [Option.some.injEq] at e
  subst e
  have he:=eq_vf (P:=P) (w:=w) 9999 hu (.func f) #[] vs.toArray
  exact ⟨by cases op<;>simp [eqGuard],eql_run rfl he,neq_run rfl he⟩
 ·rename_i f cs hck
  rw [hck] at hs
  obtain ⟨u1,u2,u3,hu⟩:=hs
  have e2:vb=.nilFunc:=hb
  obtain ⟨vs,rfl,_⟩:=ha
  subst e2
  simp only [Option.some.injEq] at e
  subst e
  have he:=eq_vf (P:=P) (w:=w) 9999 hu (.func f) vs.toArray #[]
  exact ⟨by cases op<;>simp [eqGuard],eql_run rfl he,neq_run rfl he⟩
 ·rename_i f cs hck
  rw [hck] at hs
  obtain ⟨u1,u2,u3,hu⟩:=hs
  have e2:va=.nilFunc:=ha
  obtain ⟨vs,rfl,_⟩:=hb
  subst e2
  simp only [Option.some.injEq] at e
  subst e
  have he:=eq_fv (P:=P) (w:=w) 9999 hu (.func f) #[] vs.toArray
  exact ⟨by cases op<;>simp [eqGuard],eql_run rfl he,neq_run rfl he⟩
 ·rename_i hck
  rw [hck] at hs
  obtain ⟨u1,u2,hu⟩:=hs
  have e1:va=.map none:=ha
  have e2:vb=.map none:=hb
  subst e1 e2
  simp only [Option.some.injEq] at e
  subst e
  have he:=eq_mm (P:=P) (w:=w) 9999 hu
  exact ⟨by cases op<;>simp [eqGuard],eql_run rfl he,neq_run rfl he⟩
 ·rename_i l hck
  rw [hck] at hs
  obtain ⟨u1,u2,hu⟩:=hs
  obtain ⟨es,b,_,_,rfl⟩:=ha
  have e2:vb=.map none:=hb
  subst e2
  simp only [Option.some.injEq] at e
  subst e
  have he:=eq_mn (P:=P) (w:=w) 9999 hu b
  exact ⟨by cases op<;>simp [eqGuard],eql_run rfl he,neq_run rfl he⟩
 ·simp at e
theorem aBin_sound {t ty:TypeId} {kc:Bool} {x y:Operand} {a b z:AV} {va vb:Value} (op:BinOp) (hkc:kc=(isConst x||isConst y)) (e:aBin P op t kc a b=some z) (ha:Rep μ h w a va) (hb:Rep μ h w b vb) :
  ∃ u,(do eqGuard op t x y va vb;binOp op t va vb:Sem Value).run P w=.ok u w∧Rep μ h w z u:=by
 unfold aBin at e
 split at e
 ·rename_i k p k' q
  have e1:va=.int k p:=ha
  have e2:vb=.int k' q:=hb
  subst e1 e2
  split at e
  ·rename_i hk
   subst hk
   obtain ⟨u,h1,h2⟩:=aInt_sound (P:=P) (t:=t) (μ:=μ) (h:=h) (w:=w) e
   exact ⟨u,by simp [eqGuard_int,h1],h2⟩
  ·obtain ⟨u,h1,h2⟩:=aShift_sound (P:=P) (t:=t) (k':=k') (μ:=μ) (h:=h) (w:=w) e
   exact ⟨u,by simp [eqGuard_int,h1],h2⟩
 ·rename_i p q
  have e1:va=.string ⟨p.toArray⟩:=ha
  have e2:vb=.string ⟨q.toArray⟩:=hb
  subst e1 e2
  obtain ⟨u,h1,h2⟩:=aStr_sound (P:=P) (t:=t) (μ:=μ) (h:=h) (w:=w) e
  exact ⟨u,by simp [eqGuard_str,h1],h2⟩
 ·unfold eqOp at e
  split at e
  ·cases hr:eqV kc (ck P t) a b with
   | none=>simp [hr,yesO] at e
   | some r =>
    simp only [hr,yesO,Option.some.injEq] at e
    subst e
    obtain ⟨h1,h2,_⟩:=eqV_sound (P:=P) .eql hkc hr ha hb
    exact ⟨.bool r,by simp [h1,h2 r rfl],rfl⟩
  ·cases hr:eqV kc (ck P t) a b with
   | none=>simp [hr,notO] at e
   | some r =>
    simp only [hr,notO,Option.some.injEq] at e
    subst e
    obtain ⟨h1,_,h3⟩:=eqV_sound (P:=P) .neq hkc hr ha hb
    exact ⟨.bool (!r),by simp [h1,h3],rfl⟩
  ·simp at e
theorem eq_sn (d:Nat) {t e:TypeId} (hu:P.underlying t=some (.slice e)) (base:Option Addr) (n c:Nat):(Op.equalIn (d+1) t (.slice base n c) (.slice none 0 0)).run P w=.ok base.isNone w:=by
 cases base<;>simp [Op.equalIn,run_underlying hu]
theorem nilOf_spec {a:AV} {b:Bool} {v:Value} {hc:Heap} (hh:hc=h∨hc=[]) (e:nilOf hc a=some b) (ha:Rep μ h w a v):∃ base n c,v=.slice base n c∧base.isNone=b:=by
 unfold nilOf at e
 split at e
 ·simp only [Option.some.injEq] at e
  subst e
  have:v=.slice none 0 0:=ha
  exact ⟨none,0,0,this,rfl⟩
 ·simp only [Option.some.injEq] at e
  subst e
  obtain ⟨base,cap,h1,h2⟩:=ha
  exact ⟨base,0,cap,h1,h2⟩
 ·split at e
  ·simp at e
  ·rename_i rs hne
   simp only [Option.some.injEq] at e
   subst e
   obtain ⟨base,cap,rfl,_,hr⟩:=ha
   rcases hr with rfl | ⟨b,o,z,rfl,_⟩
   ·simp at hne
   ·exact ⟨_,_,_,rfl,rfl⟩
 ·split at e
  ·simp at e
  ·rename_i rs hne
   simp only [Option.some.injEq] at e
   subst e
   obtain ⟨base,rfl,hr⟩:=ha
   rcases hr with rfl | ⟨b,o,z,rfl,_⟩
   ·simp at hne
   ·exact ⟨_,_,_,rfl,rfl⟩
 ·rename_i l n
  rcases hh with rfl | rfl
  case inr=>simp at e
  split at e
  ·rename_i z rs wr hl
   split at e
   ·rename_i hn
    simp only [Option.some.injEq] at e
    subst e
    obtain ⟨z',rs',wr',base,cap,hl',_,rfl,hv⟩:=ha
    rw [hl] at hl'
    simp only [Option.some.injEq,Blk.rows.injEq] at hl'
    obtain ⟨rfl,rfl,rfl⟩:=hl'
    obtain ⟨h1,_,h3⟩:=hv hn.1.symm
    rcases h3 with ⟨rfl,h4⟩ | ⟨b,vs,T,rfl,_⟩
    ·omega
    ·exact ⟨_,_,_,rfl,rfl⟩
   ·simp at e
  ·simp at e
 ·simp at e
theorem nilEq_sound {t ty:TypeId} {x y:Operand} {a b z:AV} {va vb:Value} {hc:Heap} (hh:hc=h∨hc=[]) (op:BinOp) (e:nilEq P op t hc a b=some z) (ha:Rep μ h w a va) (hb:Rep μ h w b vb) :
  ∃ u,(do eqGuard op t x y va vb;binOp op t va vb:Sem Value).run P w=.ok u w∧Rep μ h w z u:=by
 unfold nilEq at e
 split at e
 ·split at e
  ·rename_i hsl
   have hvb:vb=.slice none 0 0:=hb
   subst hvb
   unfold isSl at hsl
   split at hsl
   ·rename_i el hu
    unfold eqOp at e
    split at e
    ·cases hr:nilOf hc a with
     | none=>simp [hr,yesO] at e
     | some r =>
      simp only [hr,yesO,Option.some.injEq] at e
      subst e
      obtain ⟨base,n,c,rfl,hbn⟩:=nilOf_spec hh hr ha
      have he:=eq_sn (P:=P) (w:=w) 9999 hu base n c
      rw [hbn] at he
      have hg:(eqGuard .eql t x y (.slice base n c) (.slice none 0 0)).run P w=.ok () w:=by simp [eqGuard]
      exact ⟨.bool r,by simp only [Sem.run_bind,hg,Result.andThen_ok];exact eql_run rfl he r rfl,rfl⟩
    ·cases hr:nilOf hc a with
     | none=>simp [hr,notO] at e
     | some r =>
      simp only [hr,notO,Option.some.injEq] at e
      subst e
      obtain ⟨base,n,c,rfl,hbn⟩:=nilOf_spec hh hr ha
      have he:=eq_sn (P:=P) (w:=w) 9999 hu base n c
      rw [hbn] at he
      have hg:(eqGuard .neq t x y (.slice base n c) (.slice none 0 0)).run P w=.ok () w:=by simp [eqGuard]
      exact ⟨.bool (!r),by simp only [Sem.run_bind,hg,Result.andThen_ok];exact neq_run rfl he,rfl⟩
    ·simp at e
   ·simp at hsl
  ·simp at e
 ·simp at e
theorem aUn_sound {op:UnOp} {a x:AV} {v:Value} (e:aUn op a=some x) (ha:Rep μ h w a v):∃ u,(Op.unary op v).run P w=.ok u w∧Rep μ h w x u:=by
 unfold aUn at e
 split at e
 ·rename_i b
  have:v=.bool b:=ha
  subst this
  simp only [Option.some.injEq] at e
  subst e
  exact ⟨_,by simp [Op.unary],rfl⟩
 ·rename_i k n
  have:v=.int k n:=ha
  subst this
  simp only [Option.some.injEq] at e
  subst e
  exact ⟨.int k (k.wrap (0 - n)),by simp [Op.unary,Op.intArith],rfl⟩
 ·simp at e
theorem Ext.alloc (hr:Rel μ h w) (o:Obj):Ext μ h w μ h (w.alloc o) where
 out:=rfl
 still:=rfl
 os:=rfl
 tape:=rfl
 output:=rfl
 size:=by simp
 len:=Nat.le_refl _
 maps:=fun _ es hl=>⟨⟨es,hl⟩,rfl⟩
 keep:=fun b o' v hc hm=>by
  refine ⟨?_,hm⟩
  have hb:b < w.heap.size:=by
   by_cases hb:b < w.heap.size
   ·exact hb
   ·simp [World.cell?,Array.getElem?_eq_none (Nat.le_of_not_lt hb)] at hc
  rw [World.cell?_alloc_lt _ _ _ hb];exact hc
 outside:=fun b hb ho=>⟨by simp only [World.alloc];rw [Array.getElem?_push,if_neg (by omega)],ho⟩
 cells:=fun _ cs hl=>⟨⟨cs,hl⟩,rfl⟩
 rows:=fun _ _ rs wr hl=>⟨rs,wr,hl,Nat.le_refl _,fun _=>rfl⟩
 sizes:=fun b vs T hb=>by
  refine ⟨vs,?_,rfl⟩
  have hlt:=hb.lt
  refine hb.eq ?_
  simp only [World.alloc]
  rw [Array.getElem?_push,if_neg (by omega)]
theorem RowsIn.keep {M M':Nat→Nat→Prop} {w':World} {z:Nat} {rs:List (List AV)} {vs:Array Value} (hk:Keeps M w M' w') (hi:RowsIn M w z rs vs):RowsIn M' w' z rs vs:=by
 intro i row hrow
 obtain ⟨h1,h2,h3⟩:=hi i row hrow
 refine ⟨h1,h2,fun c a ha=>?_⟩
 obtain ⟨v,hv,hp⟩:=h3 c a ha
 exact ⟨v,hv,PRep.keep hk a v hp⟩
theorem RowsN.ext {μ':Mp Bs} {h':Heap} {w':World} {z:Nat} {rs:List (List AV)} {vs:Array Value} (e:Ext μ h w μ' h' w') (hi:RowsN μ h w z rs vs):RowsN μ' h' w' z rs vs:=by
 intro i row hrow
 obtain ⟨h1,h2,h3⟩:=hi i row hrow
 refine ⟨h1,h2,fun c a ha=>?_⟩
 obtain ⟨v,hv,hp⟩:=h3 c a ha
 exact ⟨v,hv,Rep.ext e a v hp⟩
theorem Rel.ext_same {w':World} (hr:Rel μ h w) (e:Ext μ h w μ h w') (hb:∀ l b,l < h.length→μ l=some b→w'.heap[b]? = w.heap[b]?):Rel μ h w' where
 inj:=hr.inj
 apart:=hr.apart
 old:=fun b o ho=>Nat.lt_of_lt_of_le (hr.old b o ho) e.size
 still:=(hr.carry e).1
 base:=(hr.carry e).2
 blk:=fun l k hl=>by
  have hlt:l < h.length:=(List.getElem?_eq_some_iff.1 hl).1
  have:=hr.blk l k hl
  cases k with
  | cells cs =>
   obtain ⟨b,vs,T,h1,h2,h3,h4⟩:=this
   exact ⟨b,vs,T,h1,by rw [hb l b hlt h1];exact h2,h3,RepL.ext e cs vs h4⟩
  | rows z rs wr =>
   rcases this with h0 | ⟨b,vs,T,h1,h2,h3,h4⟩
   ·exact .inl h0
   ·exact .inr ⟨b,vs,T,h1,h2.eq (hb l b hlt h1),h3,h4.ext e⟩
  | hole=>exact this
  | map es =>
   obtain ⟨b,ms,c,h1,h2,h3⟩:=this
   exact ⟨b,ms,c,h1,by rw [hb l b hlt h1];exact h2,h3.keep e.keep⟩
theorem Rel.mapped (hr:Rel μ h w) {l b:Nat} (hl:l < h.length) (hm:μ l=some b):b < w.heap.size:=by
 have:=hr.blk l _ (List.getElem?_eq_getElem hl)
 cases hk:h[l] with
 | cells cs =>
  rw [hk] at this
  obtain ⟨b',vs,T,h1,h2,_⟩:=this
  have e:b'=b:=by rw [hm] at h1;simpa using h1.symm
  subst e
  exact (Array.getElem?_eq_some_iff.1 h2).1
 | rows z rs wr =>
  rw [hk] at this
  rcases this with ⟨_,h0⟩ | ⟨b',vs,T,h1,h2,_⟩
  ·rw [hm] at h0;simp at h0
  ·have e:b'=b:=by rw [hm] at h1;simpa using h1.symm
   subst e
   exact h2.lt
 | hole =>
  rw [hk] at this
  have h0:μ l=none:=this
  rw [hm] at h0;simp at h0
 | map es =>
  rw [hk] at this
  obtain ⟨b',ms,c,h1,h2,_⟩:=this
  have e:b'=b:=by rw [hm] at h1;simpa using h1.symm
  subst e
  exact (Array.getElem?_eq_some_iff.1 h2).1
theorem Rel.alloc (hr:Rel μ h w) (o:Obj):Rel μ h (w.alloc o) :=
 hr.ext_same (Ext.alloc hr o) fun l b hl hm=>by
  have:=hr.mapped hl hm
  simp only [World.alloc]
  rw [Array.getElem?_push,if_neg (by omega)]
theorem Ext.heap_eq {w':World} (h1:w'.heap=w.heap) (h2:w'.os=w.os) (h3:w'.tape=w.tape) (h4:w'.output=w.output):Ext μ h w μ h w' where
 out:=rfl
 still:=rfl
 os:=h2
 tape:=h3
 output:=h4
 size:=by rw [h1];exact Nat.le_refl _
 len:=Nat.le_refl _
 maps:=fun _ es hl=>⟨⟨es,hl⟩,rfl⟩
 keep:=fun b o v hc hm=>⟨by simpa only [World.cell?,h1] using hc,hm⟩
 outside:=fun b _ ho=>⟨by rw [h1],ho⟩
 cells:=fun _ cs hl=>⟨⟨cs,hl⟩,rfl⟩
 rows:=fun _ _ rs wr hl=>⟨rs,wr,hl,Nat.le_refl _,fun _=>rfl⟩
 sizes:=fun b vs T hb=>⟨vs,hb.eq (by rw [h1]),rfl⟩
theorem Rel.heap_eq {w':World} (hr:Rel μ h w) (h1:w'.heap=w.heap) (h2:w'.os=w.os) (h3:w'.tape=w.tape) (h4:w'.output=w.output):Rel μ h w' :=
 hr.ext_same (Ext.heap_eq h1 h2 h3 h4) fun _ _ _ _=>by rw [h1]
def Quiet (P:Program) (μ:Mp Bs) (h:Heap) (w:World) (s:Sem Value) (x:AV):Prop :=
 ∃ u w',s.run P w=.ok u w'∧Rel μ h w'∧Ext μ h w μ h w'∧Rep μ h w' x u
theorem Quiet.of_same (hr:Rel μ h w) {s:Sem Value} {x:AV} (hx:∃ u,s.run P w=.ok u w∧Rep μ h w x u):Quiet P μ h w s x:=by
 obtain ⟨u,h1,h2⟩:=hx
 exact ⟨u,w,h1,hr,Ext.refl _ _ _,h2⟩
theorem nilCheck_sound {a x:AV} {v:Value} (e:nilCheckV a=some x) (ha:Rep μ h w a v):((∃ p,v=.pointer (some p))∨∃ f cs,v=.func (.func f) #[] cs)∧Rep μ h w x v:=by
 unfold nilCheckV at e
 split at e
 ·rename_i l o
  simp only [Option.some.injEq] at e
  subst e
  obtain ⟨cs,b,h1,h2,rfl⟩:=ha
  exact ⟨.inl ⟨_,rfl⟩,cs,b,h1,h2,rfl⟩
 ·rename_i l n i o
  simp only [Option.some.injEq] at e
  subst e
  obtain ⟨z,rs,wr,b,h1,h2,rfl,h3⟩:=ha
  exact ⟨.inl ⟨_,rfl⟩,z,rs,wr,b,h1,h2,rfl,h3⟩
 ·rename_i r o
  simp only [Option.some.injEq] at e
  subst e
  obtain ⟨b,p,rfl,h1⟩:=ha
  exact ⟨.inl ⟨_,rfl⟩,b,p,rfl,h1⟩
 ·rename_i f c
  simp only [Option.some.injEq] at e
  subst e
  obtain ⟨vs,rfl,h1⟩:=ha
  exact ⟨.inr ⟨f,_,rfl⟩,vs,rfl,h1⟩
 ·rename_i t l o
  simp only [Option.some.injEq] at e
  subst e
  obtain ⟨cs,b,h1,h2,rfl,hh⟩:=ha
  exact ⟨.inl ⟨_,rfl⟩,cs,b,h1,h2,rfl,hh⟩
 ·simp at e
theorem iface_sound {t:TypeId} {a x:AV} {v:Value} (e:ifaceV P t a=some x) (ha:Rep μ h w a v):∃ u,(Instr.makeInterface t v).run P w=.ok u w∧Rep μ h w x u:=by
 unfold ifaceV at e
 split at e
 ·simp at e
 ·rename_i d hne hu
  simp only [Option.some.injEq] at e
  subst e
  refine ⟨.iface t v,?_,v,rfl,ha⟩
  cases d<;>first
   | exact (hne _ rfl).elim
   | simp [Instr.makeInterface,run_underlying hu]
 ·simp at e
theorem zv_spec {t:TypeId} {a:AV} (e:zv P t=some a):∃ i z,P.info? t=some i∧i.zero=some z∧a=ofVal z∧(zeroValue t).run P w=.ok z w:=by
 unfold zv at e
 split at e
 ·rename_i i hi
  cases hz:i.zero with
  | none=>simp [hz] at e
  | some z =>
   simp only [hz,Option.map_some,Option.some.injEq] at e
   exact ⟨i,z,hi,hz,e.symm,by simp [zeroValue,typeInfo,hi,hz]⟩
 ·simp at e
theorem foldl_set (o:Nat):∀ (us:List Value) (k:Nat) (cs:Array Value),o+k+us.length≤cs.size →
  ((us.zipIdx k).foldl (fun cs (x:Value×Nat)=>cs.setIfInBounds (o+x.2) x.1) cs).toList=cs.toList.take (o+k)++us++cs.toList.drop (o+k+us.length)
 | [],k,cs,_=>by simp
 | u::us,k,cs,hl=>by
  simp only [List.length_cons] at hl
  simp only [List.zipIdx_cons,List.foldl_cons]
  rw [foldl_set o us (k+1) _ (by simp;omega)]
  have:=list_seg_step cs.toList (o+k) u us (by simp;omega)
  simp only [Array.toList_setIfInBounds,List.length_cons]
  rw [←this]
  simp only [Nat.add_assoc,Nat.add_comm 1]
theorem cellsOf_sound {a:AV} {v:Value} {cs:List AV} (e:cellsOf a=some cs) (ha:Rep μ h w a v):singles cs=true∧RepL μ h w cs v.cells.toList:=by
 cases a with
 | agg l =>
  simp only [cellsOf] at e
  split at e
  ·rename_i hs
   simp only [Option.some.injEq] at e
   subst e
   obtain ⟨vs,rfl,hl⟩:=ha
   exact ⟨hs,hl⟩
  ·simp at e
 | tup _=>simp [cellsOf] at e
 | any=>simp [cellsOf] at e
 | int k n=>simp only [cellsOf,Option.some.injEq] at e;subst e;have:v=_:=ha;subst this;exact ⟨rfl,_,_,rfl,rfl,rfl⟩
 | bool b=>simp only [cellsOf,Option.some.injEq] at e;subst e;have:v=_:=ha;subst this;exact ⟨rfl,_,_,rfl,rfl,rfl⟩
 | str s=>simp only [cellsOf,Option.some.injEq] at e;subst e;have:v=_:=ha;subst this;exact ⟨rfl,_,_,rfl,rfl,rfl⟩
 | nilp=>simp only [cellsOf,Option.some.injEq] at e;subst e;have:v=_:=ha;subst this;exact ⟨rfl,_,_,rfl,rfl,rfl⟩
 | nilf=>simp only [cellsOf,Option.some.injEq] at e;subst e;have:v=_:=ha;subst this;exact ⟨rfl,_,_,rfl,rfl,rfl⟩
 | nili=>simp only [cellsOf,Option.some.injEq] at e;subst e;have:v=_:=ha;subst this;exact ⟨rfl,_,_,rfl,rfl,rfl⟩
 | emp _=>simp only [cellsOf,Option.some.injEq] at e;subst e;obtain ⟨b,c,rfl,hh⟩:=ha;exact ⟨rfl,_,_,rfl,⟨b,c,rfl,hh⟩,rfl⟩
 | nilm=>simp only [cellsOf,Option.some.injEq] at e;subst e;have:v=_:=ha;subst this;exact ⟨rfl,_,_,rfl,rfl,rfl⟩
 | nils=>simp only [cellsOf,Option.some.injEq] at e;subst e;have:v=_:=ha;subst this;exact ⟨rfl,_,_,rfl,rfl,rfl⟩
 | rows rs=>simp only [cellsOf,Option.some.injEq] at e;subst e;obtain ⟨b,c,rfl,hh⟩:=ha;exact ⟨rfl,_,_,rfl,⟨b,c,rfl,hh⟩,rfl⟩
 | lit rs=>simp only [cellsOf,Option.some.injEq] at e;subst e;obtain ⟨b,rfl,hh⟩:=ha;exact ⟨rfl,_,_,rfl,⟨b,rfl,hh⟩,rfl⟩
 | rptr r o=>simp only [cellsOf,Option.some.injEq] at e;subst e;obtain ⟨b,c,rfl,hh⟩:=ha;exact ⟨rfl,_,_,rfl,⟨b,c,rfl,hh⟩,rfl⟩
 | fn f cs'=>simp only [cellsOf,Option.some.injEq] at e;subst e;obtain ⟨b,rfl,hh⟩:=ha;exact ⟨rfl,_,_,rfl,⟨b,rfl,hh⟩,rfl⟩
 | bnd f cs'=>simp only [cellsOf,Option.some.injEq] at e;subst e;obtain ⟨b,rfl,hh⟩:=ha;exact ⟨rfl,_,_,rfl,⟨b,rfl,hh⟩,rfl⟩
 | iface t a=>simp only [cellsOf,Option.some.injEq] at e;subst e;obtain ⟨b,rfl,hh⟩:=ha;exact ⟨rfl,_,_,rfl,⟨b,rfl,hh⟩,rfl⟩
 | ptr l o=>simp only [cellsOf,Option.some.injEq] at e;subst e;obtain ⟨b,c,h1,h2,rfl⟩:=ha;exact ⟨rfl,_,_,rfl,⟨b,c,h1,h2,rfl⟩,rfl⟩
 | tptr t l o=>simp only [cellsOf,Option.some.injEq] at e;subst e;obtain ⟨b,c,h1,h2,rfl,hh⟩:=ha;exact ⟨rfl,_,_,rfl,⟨b,c,h1,h2,rfl,hh⟩,rfl⟩
 | town t l n=>simp only [cellsOf,Option.some.injEq] at e;subst e;obtain ⟨z,rs,wr,b,c,h1,h2,rfl,h3⟩:=ha;exact ⟨rfl,_,_,rfl,⟨z,rs,wr,b,c,h1,h2,rfl,h3⟩,rfl⟩
 | vw l n a m=>simp only [cellsOf,Option.some.injEq] at e;subst e;obtain ⟨z,rs,wr,b,c,h1,h2,rfl,h3⟩:=ha;exact ⟨rfl,_,_,rfl,⟨z,rs,wr,b,c,h1,h2,rfl,h3⟩,rfl⟩
 | mp l=>simp only [cellsOf,Option.some.injEq] at e;subst e;obtain ⟨es,b,h1,h2,rfl⟩:=ha;exact ⟨rfl,_,_,rfl,⟨es,b,h1,h2,rfl⟩,rfl⟩
 | own l n=>simp only [cellsOf,Option.some.injEq] at e;subst e;obtain ⟨z,rs,wr,b,c,h1,h2,rfl,h3⟩:=ha;exact ⟨rfl,_,_,rfl,⟨z,rs,wr,b,c,h1,h2,rfl,h3⟩,rfl⟩
 | optr l n i o=>simp only [cellsOf,Option.some.injEq] at e;subst e;obtain ⟨z,rs,wr,b,h1,h2,rfl,h3⟩:=ha;exact ⟨rfl,_,_,rfl,⟨z,rs,wr,b,h1,h2,rfl,h3⟩,rfl⟩
theorem RepL.len {cs:List AV} {vs:List Value} (r:RepL μ h w cs vs):vs.length=cs.length:=(RepL.at cs vs r).1
theorem RepL.append:∀ {a b:List AV} {va vb:List Value},RepL μ h w a va→RepL μ h w b vb→RepL μ h w (a++b) (va++vb)
 | [],_,va,_,ha,hb=>by
  have:va=[]:=ha
  subst this
  exact hb
 | _::_,_,_,_,ha,hb=>by
  obtain ⟨v,vr,rfl,h1,h2⟩:=ha
  exact ⟨v,_,rfl,h1,RepL.append h2 hb⟩
theorem RepL.take:∀ {a:List AV} {va:List Value} (n:Nat),RepL μ h w a va→RepL μ h w (a.take n) (va.take n)
 | _,_,0,_=>by simp [RepL]
 | [],va,n+1,ha=>by
  have:va=[]:=ha
  subst this
  rfl
 | _::_,_,n+1,ha=>by
  obtain ⟨v,vr,rfl,h1,h2⟩:=ha
  exact ⟨v,_,rfl,h1,RepL.take n h2⟩
theorem RepL.drop:∀ {a:List AV} {va:List Value} (n:Nat),RepL μ h w a va→RepL μ h w (a.drop n) (va.drop n)
 | _,_,0,ha=>by simpa using ha
 | [],va,n+1,ha=>by
  have:va=[]:=ha
  subst this
  rfl
 | _::_,_,n+1,ha=>by
  obtain ⟨v,vr,rfl,h1,h2⟩:=ha
  simpa using RepL.drop n h2
theorem RepL.splice {cs ns:List AV} {vs us:List Value} (o:Nat) (hc:RepL μ h w cs vs) (hn:RepL μ h w ns us):RepL μ h w (splice cs o ns) (vs.take o++us++vs.drop (o+us.length)):=by
 unfold Go.Ab.splice
 rw [hn.len]
 exact ((hc.take o).append hn).append (hc.drop _)
theorem singles_append:∀ {a b:List AV},singles a=true→singles b=true→singles (a++b)=true
 | [],_,_,hb=>hb
 | x::a,b,ha,hb=>by
  simp only [singles,Bool.and_eq_true,List.cons_append] at ha ⊢
  exact ⟨ha.1,singles_append ha.2 hb⟩
theorem singles_take:∀ {a:List AV} (n:Nat),singles a=true→singles (a.take n)=true
 | _,0,_=>by simp [singles]
 | [],n+1,_=>rfl
 | x::a,n+1,ha=>by
  simp only [singles,Bool.and_eq_true,List.take_succ_cons] at ha ⊢
  exact ⟨ha.1,singles_take n ha.2⟩
theorem singles_drop:∀ {a:List AV} (n:Nat),singles a=true→singles (a.drop n)=true
 | _,0,ha=>by simpa using ha
 | [],n+1,_=>rfl
 | x::a,n+1,ha=>by
  simp only [singles,Bool.and_eq_true] at ha
  simpa using singles_drop n ha.2
theorem singles_splice {cs ns:List AV} (o:Nat) (hc:singles cs=true) (hn:singles ns=true):singles (splice cs o ns)=true :=
 singles_append (singles_append (singles_take o hc) hn) (singles_drop _ hc)
theorem fillBy_sound {ev:Operand→AV} {ρ:Operand→Value} (he:EvRep μ h w ev ρ) (pl pl':Nat→Option (Nat×Nat)) (hp:∀ i,pl' i=pl i):∀ (parts:List (Nat×Operand)) (cs:List AV) (vs:Array Value) (x:AV),
  fillBy pl ev cs parts=some x→RepL μ h w cs vs.toList→∃ us:Array Value,Instr.fill pl' vs (parts.map fun p=>(p.1,ρ p.2))=some us∧Rep μ h w x (.agg us)
 | [],cs,vs,x,e,hr=>by
  simp only [fillBy,Option.some.injEq] at e
  subst e
  exact ⟨vs,rfl,vs.toList,by simp,hr⟩
 | (i,y)::parts,cs,vs,x,e,hr=>by
  simp only [fillBy] at e
  split at e
  ·rename_i o z hpl
   split at e
   ·rename_i ns hns
    split at e
    ·rename_i hc
     obtain ⟨_,hn⟩:=cellsOf_sound hns (he y)
     have hl1:(ρ y).cells.toList.length=ns.length:=hn.len
     have hl2:vs.toList.length=cs.length:=hr.len
     have hl1':(ρ y).cells.size=ns.length:=by simpa using hl1
     have hl2':vs.size=cs.length:=by simpa using hl2
     have hfold:=foldl_set o (ρ y).cells.toList 0 vs (by simp;omega)
     have ih:=fillBy_sound he pl pl' hp parts (splice cs o ns) ((ρ y).cells.zipIdx.foldl (fun cs (x:Value×Nat)=>cs.setIfInBounds (o+x.2) x.1) vs) x e (by
      rw [←Array.foldl_toList,Array.toList_zipIdx,hfold]
      simpa using RepL.splice o hr hn)
     obtain ⟨us,h1,h2⟩:=ih
     refine ⟨us,?_,h2⟩
     have hcond:¬((ρ y).cells.size≠z∨o+(ρ y).cells.size > vs.size):=by omega
     simp only [List.map_cons,Instr.fill,hp,hpl,Bool.or_eq_true,decide_eq_true_eq,ne_eq,gt_iff_lt] at hcond ⊢
     rw [if_neg (by simpa using hcond)]
     exact h1
    ·simp at e
   ·simp at e
  ·simp at e
theorem mapM_fields:∀ (fs:List Field) (l:List (Nat×Nat)),fieldPls P fs=some l→(fs.mapM (fun f=>do pure (f.offset,←sizeOf f.type):Field→Sem (Nat×Nat))).run P w=.ok l w
 | [],l,e=>by
  simp only [fieldPls,Option.some.injEq] at e
  subst e
  simp
 | f::fs,l,e=>by
  simp only [fieldPls] at e
  split at e
  ·rename_i i hi
   split at e
   ·rename_i l' hl'
    simp only [Option.some.injEq] at e
    subst e
    have ih:=mapM_fields fs l' hl'
    have hs:(sizeOf f.type).run P w=.ok i.size w:=by simp [sizeOf,typeInfo,hi]
    simp only [List.mapM_cons,Sem.run_bind,hs,Result.andThen_ok,Sem.run_pure]
    rw [ih]
    rfl
   ·simp at e
  ·simp at e
theorem build_sound {t:TypeId} {ev:Operand→AV} {ρ:Operand→Value} {parts:Array (Nat×Operand)} {x:AV} (he:EvRep μ h w ev ρ) (e:buildV ev parts.toList (plc P t) (zv P t)=some x) :
  ∃ u,(Instr.build t (parts.map fun (i,x)=>(i,ρ x))).run P w=.ok u w∧Rep μ h w x u:=by
 unfold buildV at e
 split at e
 ·rename_i p cs hp hz
  obtain ⟨i,z,hi,hz',hzv,hrun⟩:=zv_spec (w:=w) hz
  have hrep:Rep μ h w (ofVal z) z:=Rep.pure _ _ (ofVal_rep z)
  rw [←hzv] at hrep
  obtain ⟨vs,rfl,hl⟩:=hrep
  unfold plc at hp
  split at hp
  ·rename_i fs hu
   split at hp
   ·rename_i l hf
    simp only [Option.some.injEq] at hp
    subst hp
    obtain ⟨us,h1,h2⟩:=fillBy_sound he (placeOf (.fields l)) (fun i=>l.toArray[i]?) (fun i=>by simp [placeOf]) parts.toList cs vs.toArray x e (by simpa using hl)
    refine ⟨.agg us,?_,h2⟩
    have hm:(fs.mapM (fun f=>do pure (f.offset,←sizeOf f.type):Field→Sem (Nat×Nat))).run P w=.ok l.toArray w:=by
     obtain ⟨fl⟩:=fs
     rw [List.mapM_toArray,Sem.run_map,mapM_fields fl l hf]
     rfl
    simp only [Instr.build,Sem.run_bind,hrun,Result.andThen_ok,run_underlying hu,Value.cells]
    rw [hm]
    simp only [Result.andThen_ok,Array.toList_map]
    rw [h1]
    rfl
   ·simp at hp
  ·rename_i n el hu
   split at hp
   ·rename_i j hj
    simp only [Option.some.injEq] at hp
    subst hp
    obtain ⟨us,h1,h2⟩:=fillBy_sound he (placeOf (.elems j.size)) (fun i=>some (i*j.size,j.size)) (fun i=>rfl) parts.toList cs vs.toArray x e (by simpa using hl)
    refine ⟨.agg us,?_,h2⟩
    simp only [Instr.build,Sem.run_bind,hrun,Result.andThen_ok,run_underlying hu,Value.cells,sizeOf,typeInfo,run_program,hj,Sem.run_pure,Array.toList_map]
    rw [h1]
    rfl
   ·simp at hp
  ·simp at hp
 ·simp at e
theorem PRepL.len {M:Nat→Nat→Prop}:∀ {cs:List AV} {vs:List Value},PRepL M w cs vs→vs.length=cs.length
 | [],vs,r=>by
  have:vs=[]:=r
  subst this
  rfl
 | _::_,_,r=>by
  obtain ⟨v,vr,rfl,_,h2⟩:=r
  simp [PRepL.len h2]
theorem PRepL.at {M:Nat→Nat→Prop}:∀ {cs:List AV} {vs:List Value},PRepL M w cs vs→∀ (i:Nat) (a:AV),cs[i]? = some a→∃ v,vs[i]? = some v∧PRep M w a v
 | [],_,_,i,a,e=>by simp at e
 | c::cs,_,r,i,a,e=>by
  obtain ⟨v,vr,rfl,h1,h2⟩:=r
  cases i with
  | zero =>
   simp only [List.getElem?_cons_zero,Option.some.injEq] at e
   subst e
   exact ⟨v,rfl,h1⟩
  | succ i=>simpa using PRepL.at h2 i a (by simpa using e)
theorem cellsOf_pure {M:Nat→Nat→Prop} {a:AV} {v:Value} {cs:List AV} (e:cellsOf a=some cs) (ha:PRep M w a v):singles cs=true∧PRepL M w cs v.cells.toList:=by
 cases a with
 | agg l =>
  simp only [cellsOf] at e
  split at e
  ·rename_i hs
   simp only [Option.some.injEq] at e
   subst e
   obtain ⟨vs,rfl,hl⟩:=ha
   exact ⟨hs,hl⟩
  ·simp at e
 | tup _=>simp [cellsOf] at e
 | any=>simp [cellsOf] at e
 | int k n=>simp only [cellsOf,Option.some.injEq] at e;subst e;have:v=_:=ha;subst this;exact ⟨rfl,_,_,rfl,rfl,rfl⟩
 | bool b=>simp only [cellsOf,Option.some.injEq] at e;subst e;have:v=_:=ha;subst this;exact ⟨rfl,_,_,rfl,rfl,rfl⟩
 | str s=>simp only [cellsOf,Option.some.injEq] at e;subst e;have:v=_:=ha;subst this;exact ⟨rfl,_,_,rfl,rfl,rfl⟩
 | nilp=>simp only [cellsOf,Option.some.injEq] at e;subst e;have:v=_:=ha;subst this;exact ⟨rfl,_,_,rfl,rfl,rfl⟩
 | nilf=>simp only [cellsOf,Option.some.injEq] at e;subst e;have:v=_:=ha;subst this;exact ⟨rfl,_,_,rfl,rfl,rfl⟩
 | nili=>simp only [cellsOf,Option.some.injEq] at e;subst e;have:v=_:=ha;subst this;exact ⟨rfl,_,_,rfl,rfl,rfl⟩
 | emp _=>simp only [cellsOf,Option.some.injEq] at e;subst e;obtain ⟨b,c,rfl,hh⟩:=ha;exact ⟨rfl,_,_,rfl,⟨b,c,rfl,hh⟩,rfl⟩
 | nilm=>simp only [cellsOf,Option.some.injEq] at e;subst e;have:v=_:=ha;subst this;exact ⟨rfl,_,_,rfl,rfl,rfl⟩
 | nils=>simp only [cellsOf,Option.some.injEq] at e;subst e;have:v=_:=ha;subst this;exact ⟨rfl,_,_,rfl,rfl,rfl⟩
 | rows rs=>simp only [cellsOf,Option.some.injEq] at e;subst e;obtain ⟨b,c,rfl,hh⟩:=ha;exact ⟨rfl,_,_,rfl,⟨b,c,rfl,hh⟩,rfl⟩
 | lit rs=>simp only [cellsOf,Option.some.injEq] at e;subst e;obtain ⟨b,rfl,hh⟩:=ha;exact ⟨rfl,_,_,rfl,⟨b,rfl,hh⟩,rfl⟩
 | rptr r o=>simp only [cellsOf,Option.some.injEq] at e;subst e;obtain ⟨b,c,rfl,hh⟩:=ha;exact ⟨rfl,_,_,rfl,⟨b,c,rfl,hh⟩,rfl⟩
 | fn f cs'=>simp only [cellsOf,Option.some.injEq] at e;subst e;obtain ⟨b,rfl,hh⟩:=ha;exact ⟨rfl,_,_,rfl,⟨b,rfl,hh⟩,rfl⟩
 | bnd f cs'=>simp only [cellsOf,Option.some.injEq] at e;subst e;obtain ⟨b,rfl,hh⟩:=ha;exact ⟨rfl,_,_,rfl,⟨b,rfl,hh⟩,rfl⟩
 | iface t a=>simp only [cellsOf,Option.some.injEq] at e;subst e;obtain ⟨b,rfl,hh⟩:=ha;exact ⟨rfl,_,_,rfl,⟨b,rfl,hh⟩,rfl⟩
 | ptr l o=>exact ha.elim
 | mp _=>exact ha.elim
 | tptr _ _ _=>exact ha.elim
 | town _ _ _=>exact ha.elim
 | vw _ _ _ _=>exact ha.elim
 | own l n=>exact ha.elim
 | optr l n i o=>exact ha.elim
theorem pieces_sound {kn:Bool} {ev:Operand→AV} {ρ:Operand→Value} (hr:Rel μ h w) (he:EvRep μ h w ev ρ) (z:Nat):∀ (parts:List (Nat×Operand)) (k:Nat) (rs:List (List AV)),pieces kn h ev z k parts=some rs →
  ∃ flat:List Value,flat.length=rs.length*z∧RowsIn (Mut μ h) w z rs flat.toArray ∧
   ∀ arr:Array Value,(k+rs.length)*z≤arr.size→∃ us:Array Value,Instr.fill (fun i=>some (i*z,z)) arr (parts.map fun p=>(p.1,ρ p.2))=some us ∧
    us.toList=arr.toList.take (k*z)++flat++arr.toList.drop ((k+rs.length)*z)
 | [],k,rs,e=>by
  simp only [pieces,Option.some.injEq] at e
  subst e
  refine ⟨[],by simp,fun i row e=>by simp at e,fun arr ha=>⟨arr,rfl,by simp⟩⟩
 | (j,x)::parts,k,rs,e=>by
  simp only [pieces] at e
  split at e
  ·rename_i hk
   subst hk
   split at e
   ·rename_i v hv
    split at e
    ·rename_i cs hcs
     split at e
     ·rename_i hz
      split at e
      ·rename_i rs' hrs
       simp only [Option.some.injEq] at e
       subst e
       obtain ⟨flat,hf1,hf2,hf3⟩:=pieces_sound hr he z parts (k+1) rs' hrs
       obtain ⟨hs,hp⟩:=cellsOf_pure hcs (pur_sound hr hv (he x))
       have hul:(ρ x).cells.toList.length=z:=by rw [hp.len];exact hz
       have hul':(ρ x).cells.size=z:=by simpa using hul
       refine ⟨(ρ x).cells.toList++flat,by simp only [List.length_append,hul,hf1,List.length_cons,Nat.succ_mul];omega,?_,?_⟩
       ·intro i row hrow
        cases i with
        | zero =>
         simp only [List.getElem?_cons_zero,Option.some.injEq] at hrow
         subst hrow
         refine ⟨hz,hs,fun c a ha=>?_⟩
         obtain ⟨u,h1,h2⟩:=hp.at c a ha
         refine ⟨u,?_,h2⟩
         have hc:c < z:=by rw [←hz];exact (List.getElem?_eq_some_iff.1 ha).1
         simp only [Nat.zero_mul,Nat.zero_add,List.getElem?_toArray]
         rw [List.getElem?_append_left (by omega)];exact h1
        | succ i =>
         simp only [List.getElem?_cons_succ] at hrow
         obtain ⟨h1,h2,h3⟩:=hf2 i row hrow
         refine ⟨h1,h2,fun c a ha=>?_⟩
         obtain ⟨u,h4,h5⟩:=h3 c a ha
         refine ⟨u,?_,h5⟩
         simp only [List.getElem?_toArray] at h4 ⊢
         rw [List.getElem?_append_right (by rw [hul,Nat.succ_mul];omega),hul,show (i+1)*z+c - z=i*z+c from by rw [Nat.succ_mul];omega]
         exact h4
       ·intro arr ha
        simp only [List.length_cons] at ha
        have hA:k*z+z≤arr.size:=by
         have:(k+1)*z≤(k+(rs'.length+1))*z:=Nat.mul_le_mul_right z (by omega)
         rw [Nat.succ_mul] at this
         omega
        have hfold:=foldl_set (k*z) (ρ x).cells.toList 0 arr (by simp;omega)
        obtain ⟨us,h1,h2⟩:=hf3 ((ρ x).cells.zipIdx.foldl (fun cs (y:Value×Nat)=>cs.setIfInBounds (k*z+y.2) y.1) arr) (by
         have:((ρ x).cells.zipIdx.foldl (fun cs (y:Value×Nat)=>cs.setIfInBounds (k*z+y.2) y.1) arr).toList.length=arr.size:=by
          rw [←Array.foldl_toList,Array.toList_zipIdx,hfold]
          simp
          omega
         rw [Array.length_toList] at this
         rw [this,show k+1+rs'.length=k+(rs'.length+1) from by omega]
         exact ha)
        refine ⟨us,?_,?_⟩
        ·simp only [List.map_cons,Instr.fill]
         rw [if_neg (by simp;omega)]
         exact h1
        ·rw [h2,←Array.foldl_toList,Array.toList_zipIdx,hfold]
         have e1:(arr.toList.take (k*z+0)++(ρ x).cells.toList).length=(k+1)*z:=by
          simp only [List.length_append,List.length_take,Array.length_toList,hul,Nat.succ_mul]
          omega
         rw [List.take_append_of_le_length (by rw [e1];exact Nat.le_refl _),List.take_of_length_le (by rw [e1];exact Nat.le_refl _)]
         rw [show (k+1+rs'.length)*z=(arr.toList.take (k*z+0)++(ρ x).cells.toList).length+rs'.length*z from by rw [e1,Nat.add_mul (k+1)]]
         rw [List.drop_append,List.drop_eq_nil_of_le (by omega),Nat.add_sub_cancel_left,List.drop_drop,List.nil_append]
         simp only [Nat.add_zero,List.append_assoc,hul,List.length_cons]
         congr 4
         rw [Nat.add_mul,Nat.add_mul,Nat.one_mul]
         omega
      ·simp at e
     ·simp at e
    ·simp at e
   ·simp at e
  ·simp at e
theorem PRows.new (hr:Rel μ h w) {z:Nat} {rs:List (List AV)} {vs:Array Value} (hin:RowsIn (Mut μ h) w z rs vs) (e:TypeId) :
  PRows (Mut μ h) (w.alloc (.cells vs e)) z w.heap.size rs 0:=by
 refine PRows.of_at rs 0 fun i row hrow=>?_
 obtain ⟨h1,hs1,h3⟩:=hin i row hrow
 refine ⟨h1,hs1,PMem.of_at row _ fun c a ha=>?_⟩
 obtain ⟨u,hu,hp⟩:=h3 c a ha
 refine ⟨u,?_,?_,PRep.keep (Ext.alloc hr _).keep a u hp⟩
 ·rw [World.cell?_alloc_new,Nat.zero_add];exact hu
 ·rintro (ho | ⟨l,k,hl,hm,_⟩)
  ·have:=hr.old _ _ ho
   omega
  have:=hr.mapped (List.getElem?_eq_some_iff.1 hl).1 hm
  omega
theorem buildSlice_sound {kn:Bool} {t:TypeId} {n z b:Nat} {ev:Operand→AV} {ρ:Operand→Value} {parts:Array (Nat×Operand)} {x:AV} (hr:Rel μ h w) (he:EvRep μ h w ev ρ) (hes:es P t=some (z,b)) (e:sliceOf n z (pieces kn h ev z 0 parts.toList)=some x) :
  Quiet P μ h w (Instr.buildSlice t n (parts.map fun (i,x)=>(i,ρ x))) x:=by
 obtain ⟨u,i,y,hu,hi,hz,_,hy,_⟩:=es_zero hes
 unfold sliceOf at e
 split at e
 ·rename_i rs hrs
  split at e
  ·rename_i hc
   obtain ⟨hn,hmax⟩:=hc
   simp only [Option.some.injEq] at e
   subst e
   obtain ⟨flat,hf1,hf2,hf3⟩:=pieces_sound hr he z parts.toList 0 rs hrs
   have main:∀ zero:Array Value,∃ us:Array Value,Instr.fill (fun i=>some (i*z,z)) ((Array.range (n*z)).map (zero[· % zero.size]!)) (parts.toList.map fun p=>(p.1,ρ p.2))=some us∧us=flat.toArray:=by
    intro zero
    obtain ⟨us,h1,h2⟩:=hf3 ((Array.range (n*z)).map (zero[· % zero.size]!)) (by simp [hn])
    refine ⟨us,h1,?_⟩
    apply Array.ext'
    rw [h2]
    simp [hn]
   have hgt:¬n*z > 2 ^ 24:=by omega
   refine ⟨.slice (some ⟨w.heap.size,0,none⟩) n n,w.alloc (.cells flat.toArray u),?_,hr.alloc _,Ext.alloc hr _,?_⟩
   ·by_cases h0:n*z=0
    ·obtain ⟨us,h1,rfl⟩:=main #[]
     simp only [Instr.buildSlice,Sem.run_bind,run_underlying hu,Result.andThen_ok,sizeOf,typeInfo,run_program,hi,Sem.run_pure,hz,if_neg hgt,if_pos h0,Array.toList_map]
     rw [h1]
     rfl
    ·obtain ⟨us,h1,rfl⟩:=main y.cells
     have hzv:(zeroValue u).run P w=.ok y w:=by simp [zeroValue,typeInfo,hi,hy]
     simp only [Instr.buildSlice,Sem.run_bind,run_underlying hu,Result.andThen_ok,sizeOf,typeInfo,run_program,hi,Sem.run_pure,hz,if_neg hgt,if_neg h0,hzv,Array.toList_map]
     rw [h1]
     rfl
   ·refine ⟨some ⟨w.heap.size,0,none⟩,by rw [hn],.inr ⟨w.heap.size,0,z,rfl,PRows.new hr hf2 u⟩⟩
  ·simp at e
 ·simp at e
theorem byteRows_at:∀ (s:List UInt8) (i:Nat) (row:List AV),(byteRows s)[i]? = some row→∃ b,s[i]? = some b∧row=[.int .u8 (b.toNat:Int)]
 | [],i,row,e=>by simp [byteRows] at e
 | b::s,0,row,e=>by
  simp only [byteRows,List.getElem?_cons_zero,Option.some.injEq] at e
  exact ⟨b,rfl,e.symm⟩
 | b::s,i+1,row,e=>by
  simp only [byteRows,List.getElem?_cons_succ] at e
  simpa using byteRows_at s i row e
theorem byteRows_len:∀ s:List UInt8,(byteRows s).length=s.length
 | []=>rfl
 | _::s=>by simp [byteRows,byteRows_len s]
theorem cv_int {a b:TypeId} {k:IntKind} (e:cvOf P a b=.int k):(∃ j,P.underlying a=some (.int j))∧P.underlying b=some (.int k):=by
 unfold cvOf at e
 split at e<;>(try split at e)<;>simp_all
theorem cv_str {a b:TypeId} (e:cvOf P a b=.str):((∃ j,P.underlying a=some (.int j))∨P.underlying a=some .string)∧P.underlying b=some .string:=by
 unfold cvOf at e
 split at e<;>(try split at e)<;>simp_all
theorem cv_bytes {a b:TypeId} (e:cvOf P a b=.bytes):P.underlying a=some .string∧∃ u,P.underlying b=some (.slice u)∧P.underlying u=some (.int .u8):=by
 unfold cvOf at e
 split at e<;>(try split at e)<;>simp_all
theorem cv_ofBytes {a b:TypeId} (e:cvOf P a b=.ofBytes):P.underlying b=some .string∧∃ u,P.underlying a=some (.slice u)∧P.underlying u=some (.int .u8):=by
 unfold cvOf at e
 split at e<;>(try split at e)<;>simp_all
theorem cell_freeze (w:World) (a:Addr) (n b o:Nat):(w.freeze a n).cell? ⟨b,o,none⟩=w.cell? ⟨b,o,none⟩:=by
 unfold World.freeze
 by_cases hn:n=0
 ·rw [if_pos hn]
 ·rw [if_neg hn]
  simp only [World.cell?,Array.getElem?_modify]
  by_cases hb:a.block=b
  ·simp only [if_pos hb]
   cases w.heap[b]? with
   | none=>rfl
   | some x=>cases x<;>rfl
  ·simp only [if_neg hb]
theorem Ext.freeze {w1:World} (e:Ext μ h w μ h w1) (hr:Rel μ h w) (hown:∀ l b,l < h.length→μ l=some b→w1.heap[b]? = w.heap[b]?) {b:Nat} (hb:w.heap.size≤b) (a:Addr) (ha:a.block=b) (n:Nat):Ext μ h w μ h (w1.freeze a n)∧Rel μ h (w1.freeze a n):=by
 subst ha
 by_cases hn:n=0
 ·have:w1.freeze a n=w1:=by simp [World.freeze,hn]
  rw [this];exact ⟨e,hr.ext_same e hown⟩
 have hheap:∀ k,k≠a.block→(w1.freeze a n).heap[k]? = w1.heap[k]? := by
  intro k hk
  simp only [World.freeze,if_neg hn,Array.getElem?_modify]
  rw [if_neg (by omega)]
 have hsz:(w1.freeze a n).heap.size=w1.heap.size:=by simp [World.freeze,hn]
 have e2:Ext μ h w μ h (w1.freeze a n):={
  out:=rfl
  still:=rfl
  os:=by rw [←e.os];simp [World.freeze,hn]
  tape:=by rw [←e.tape];simp [World.freeze,hn]
  output:=by rw [←e.output];simp [World.freeze,hn]
  size:=by rw [hsz];exact e.size
  len:=Nat.le_refl _
  maps:=fun _ es hl=>⟨⟨es,hl⟩,rfl⟩
  keep:=fun b o v hc hm=>by
   have hlt:b < w.heap.size:=by
    by_cases hlt:b < w.heap.size
    ·exact hlt
    ·simp [World.cell?,Array.getElem?_eq_none (Nat.le_of_not_lt hlt)] at hc
   obtain ⟨h1,h2⟩:=e.keep b o v hc hm
   exact ⟨by simp only [World.cell?] at h1 ⊢;rw [hheap b (by omega)];exact h1,h2⟩
  outside:=fun b hlt ho=>by
   obtain ⟨h1,h2⟩:=e.outside b hlt ho
   exact ⟨by rw [hheap b (by omega)];exact h1,h2⟩
  cells:=e.cells
  rows:=e.rows
  sizes:=fun b vs T hc=>by
   have hlt:b < w.heap.size:=by
    by_cases hlt:b < w.heap.size
    ·exact hlt
    ·exact hc.lt
   obtain ⟨vs',h1,h2⟩:=e.sizes b vs T hc
   exact ⟨vs',h1.eq (hheap b (by omega)),h2⟩ }
 refine ⟨e2,?_⟩
 refine hr.ext_same e2 fun l b hl hm=>?_
 have:=hr.mapped hl hm
 rw [hheap b (by omega)]
 exact hown l b hl hm
theorem bytesIn_spec:∀ (rs:List (List AV)) (l:List UInt8),bytesIn rs=some l→∃ xs:List Int,rs=xs.map (fun n=>[AV.int .u8 n])∧l=xs.map fun n=>UInt8.ofNat n.toNat
 | [],l,e=>by
  simp only [bytesIn,Option.some.injEq] at e
  exact ⟨[],rfl,e.symm⟩
 | row::rs,l,e=>by
  unfold bytesIn at e
  split at e
  ·rename_i h0;simp at h0
  ·rename_i n r h0
   obtain ⟨rfl,rfl⟩:=List.cons.inj h0
   split at e
   ·rename_i l' hl
    simp only [Option.some.injEq] at e
    obtain ⟨xs,rfl,rfl⟩:=bytesIn_spec _ _ hl
    exact ⟨n::xs,rfl,by rw [←e];rfl⟩
   ·simp at e
  ·simp at e
theorem bytes_run {a b u:TypeId} (ha:P.underlying a=some (.slice u)) (hu:P.underlying u=some (.int .u8)) (hb:P.underlying b=some .string) (xs:List Int) (base:Option Addr) (cap:Nat)
  (hm:xs.map (fun n=>[AV.int .u8 n])=[]∨∃ b o z,base=some ⟨b,o,none⟩∧PRows (Mut μ h) w z b (xs.map (fun n=>[AV.int .u8 n])) o) :
  (convert a b (.slice base xs.length cap)).run P w=.ok (.string ⟨(xs.map fun n=>UInt8.ofNat n.toNat).toArray⟩) w:=by
 rcases hm with h0 | ⟨bb,o,z,rfl,hp⟩
 ·have:xs=[]:=by simpa using h0
  subst this
  cases base with
  | none=>exact run_convert_bytes_nil w a u ha hu _ _ b hb
  | some ad =>
   rw [run_convert_bytes_string w a b u (some ad) _ cap ha hu hb,run_bytesToString w ad _ cap [] (by simp [loadCells,loadCellsFrom,Sem.run_pure])]
   rfl
 ·refine run_convert_bytes_arg w a u ha hu bb o xs.length cap xs rfl (fun i hi=>?_) b hb
  have hz:z=1:=by
   have h4:=(PRows.at _ o hp 0 [AV.int .u8 (xs[0]'(by omega))] (by simp [show 0 < xs.length by omega])).1
   simpa using h4.symm
  subst hz
  have h5:=(PRows.at _ o hp i [AV.int .u8 (xs[i]'hi)] (by simp [hi])).2.2
  obtain ⟨v,h6,_,h7⟩:=PMem.at _ _ h5 0 _ rfl
  have h8:v=.int .u8 (xs[i]'hi):=h7
  subst h8
  rw [Nat.mul_one,Nat.add_zero] at h6
  rw [h6]
  simp [List.getD,hi]
theorem convert_sound {a b:TypeId} {y x:AV} {v:Value} (hr:Rel μ h w) (e:convertV (cvOf P a b) y=some x) (hy:Rep μ h w y v):Quiet P μ h w (convert a b v) x:=by
 unfold convertV at e
 split at e
 ·rename_i k j n hc
  obtain ⟨⟨j',ha⟩,hb⟩:=cv_int hc
  have:v=.int j n:=hy
  subst this
  simp only [Option.some.injEq] at e
  subst e
  exact Quiet.of_same hr ⟨_,by simp only [convert,Sem.run_bind,run_underlying ha,run_underlying hb,Result.andThen_ok,Conv.intToInt,Sem.run_pure];rfl,rfl⟩
 ·rename_i s hc
  obtain ⟨ha,hb⟩:=cv_str hc
  have:v=.string ⟨s.toArray⟩:=hy
  subst this
  simp only [Option.some.injEq] at e
  subst e
  rcases ha with ⟨j,ha⟩ | ha
  ·exact Quiet.of_same hr ⟨_,by simp only [convert,Sem.run_bind,run_underlying ha,run_underlying hb,Result.andThen_ok,Sem.run_pure],rfl⟩
  ·exact Quiet.of_same hr ⟨_,by simp only [convert,Sem.run_bind,run_underlying ha,run_underlying hb,Result.andThen_ok,Sem.run_pure],rfl⟩
 ·rename_i k n hc
  obtain ⟨ha,hb⟩:=cv_str hc
  have:v=.int k n:=hy
  subst this
  simp only [Option.some.injEq] at e
  subst e
  rcases ha with ⟨j,ha⟩ | ha
  ·exact Quiet.of_same hr ⟨.string (Utf8.encode n),by simp only [convert,Sem.run_bind,run_underlying ha,run_underlying hb,Result.andThen_ok,Conv.intToString,Sem.run_pure],by simp [Rep,PRep]⟩
  ·exact Quiet.of_same hr ⟨.string (Utf8.encode n),by simp only [convert,Sem.run_bind,run_underlying ha,run_underlying hb,Result.andThen_ok,Conv.intToString,Sem.run_pure],by simp [Rep,PRep]⟩
 ·rename_i s hc
  obtain ⟨ha,u,hb,hu⟩:=cv_bytes hc
  have:v=.string ⟨s.toArray⟩:=hy
  subst this
  simp only [Option.some.injEq] at e
  subst e
  have hs:(⟨s.toArray⟩:ByteArray).size=s.length:=rfl
  obtain ⟨cap,w0,hdraw,hcap,hw0,hw1,hw2,hw3⟩:∃ cap w0,(choose (.appendCap s.length 0 u)).run P w=.ok cap w0∧s.length≤cap∧w0.heap=w.heap∧w0.os=w.os∧w0.tape=w.tape∧w0.output=w.output:=by
   refine ⟨_,{ w with drawn:=w.drawn+1 },by simp only [run_choose,Question.forced,Bool.false_eq_true,if_false];rfl,?_,rfl,rfl,rfl,rfl⟩
   simp only [Question.cut]
   omega
  let cells:Array Value:=(s.toArray.map fun b=>Value.int .u8 b.toNat)++Array.replicate (cap - s.length) (.int .u8 0)
  have hr0:Rel μ h w0:=hr.heap_eq hw0 hw1 hw2 hw3
  have e0:Ext μ h w μ h w0:=Ext.heap_eq hw0 hw1 hw2 hw3
  let w1:=w0.alloc (.cells cells u)
  have e1:Ext μ h w μ h w1:=e0.trans (Ext.alloc hr0 _)
  have hown:∀ l b,l < h.length→μ l=some b→w1.heap[b]? = w.heap[b]? := fun l b hl hm=>by
   have:=hr.mapped hl hm
   show (w0.heap.push _)[b]? = _
   rw [hw0,Array.getElem?_push,if_neg (by omega)]
  obtain ⟨e2,hr2⟩:=Ext.freeze e1 hr hown (b:=w.heap.size) (Nat.le_refl _) ⟨w.heap.size,cells.size,none⟩ rfl 1
  have hin:RowsIn (Mut μ h) w0 1 (byteRows s) cells:=fun i row hrow=>by
   obtain ⟨b,hb,rfl⟩:=byteRows_at s i row hrow
   refine ⟨rfl,rfl,fun c a ha=>?_⟩
   cases c with
   | zero =>
    simp only [List.getElem?_cons_zero,Option.some.injEq] at ha
    subst ha
    have hi:i < s.length:=(List.getElem?_eq_some_iff.1 hb).1
    refine ⟨.int .u8 b.toNat,?_,rfl⟩
    simp only [cells,Nat.mul_one,Nat.add_zero]
    rw [Array.getElem?_append_left (by simpa using hi)]
    simp [hb]
   | succ c=>simp at ha
  have hp:=PRows.new hr0 hin u
  refine ⟨.slice (some ⟨w.heap.size,0,none⟩) s.length cap,w1.freeze ⟨w.heap.size,cells.size,none⟩ 1,?_,hr2,e2,?_⟩
  ·simp only [convert,Sem.run_bind,run_underlying ha,run_underlying hb,run_underlying hu,Result.andThen_ok,Conv.stringToBytes,hs,hdraw,newRow,run_newObj,Sem.run_pure,markStringish,run_shape]
   have h1:World.shape? { w0 with heap:=w0.heap.push (.cells ((s.toArray.map fun b=>Value.int .u8 b.toNat)++Array.replicate (cap - s.length) (.int .u8 0)) u) } w0.heap.size=some (u,cells.size):=by
    simp [World.shape?,cells]
   have hsz:w0.heap.size=w.heap.size:=by rw [hw0]
   rw [h1]
   simp only [run_freeze,Result.andThen_ok,hsz]
   rfl
  ·refine ⟨some ⟨w.heap.size,0,none⟩,cap,by rw [byteRows_len],by rw [byteRows_len];exact hcap,.inr ⟨w.heap.size,0,1,rfl,?_⟩⟩
   rw [hw0] at hp
   refine PRows.keep ?_ _ _ _ _ hp
   intro b o v hc hm
   refine ⟨?_,hm⟩
   rw [cell_freeze]
   exact hc
 ·rename_i rs hc
  obtain ⟨hb,u,ha,hu⟩:=cv_ofBytes hc
  unfold strIn at e
  split at e
  ·rename_i l hl
   simp only [Option.some.injEq] at e
   subst e
   obtain ⟨xs,rfl,rfl⟩:=bytesIn_spec _ _ hl
   obtain ⟨base,cap,rfl,hcap,hm⟩:=hy
   refine Quiet.of_same hr ⟨.string ⟨(List.map (fun n:Int=>UInt8.ofNat n.toNat) xs).toArray⟩,?_,rfl⟩
   rw [List.length_map]
   exact bytes_run ha hu hb xs base cap hm
  ·simp at e
 ·rename_i rs hc
  obtain ⟨hb,u,ha,hu⟩:=cv_ofBytes hc
  unfold strIn at e
  split at e
  ·rename_i l hl
   simp only [Option.some.injEq] at e
   subst e
   obtain ⟨xs,rfl,rfl⟩:=bytesIn_spec _ _ hl
   obtain ⟨base,rfl,hm⟩:=hy
   refine Quiet.of_same hr ⟨.string ⟨(List.map (fun n:Int=>UInt8.ofNat n.toNat) xs).toArray⟩,?_,rfl⟩
   simp only [List.length_map]
   exact bytes_run ha hu hb xs base _ hm
  ·simp at e
 ·rename_i hc
  obtain ⟨hb,u,ha,hu⟩:=cv_ofBytes hc
  simp only [Option.some.injEq] at e
  subst e
  have:v=.slice none 0 0:=hy
  subst this
  exact Quiet.of_same hr ⟨.string ByteArray.empty,run_convert_bytes_nil w a u ha hu _ _ b hb,rfl⟩
 ·simp at e
def KkIs (P:Program) (kk:KK) (t:TypeId):Prop :=
 match kk with
 | .int=>∃ k,P.underlying t=some (.int k)
 | .str=>P.underlying t=some .string
 | .arr n=>∃ e k,P.underlying t=some (.array n e)∧P.underlying e=some (.int k)∧∃ i,P.info? e=some i∧i.size=1
theorem kk_spec {t e:TypeId} {kk:KK} (h:kkOf P t=some (kk,e)):∃ k,P.underlying t=some (.map k e)∧KkIs P kk k:=by
 unfold kkOf at h
 split at h
 ·rename_i k e' hu
  split at h
  ·rename_i i hk
   simp only [Option.some.injEq,Prod.mk.injEq] at h
   obtain ⟨rfl,rfl⟩:=h
   exact ⟨k,hu,i,hk⟩
  ·rename_i hk
   simp only [Option.some.injEq,Prod.mk.injEq] at h
   obtain ⟨rfl,rfl⟩:=h
   exact ⟨k,hu,hk⟩
  ·rename_i n i hk
   split at h
   ·rename_i j hi
    split at h
    ·rename_i y hy
     split at h
     ·rename_i hsz
      simp only [Option.some.injEq,Prod.mk.injEq] at h
      obtain ⟨rfl,rfl⟩:=h
      exact ⟨k,hu,i,j,hk,hi,y,hy,hsz⟩
     ·simp at h
    ·simp at h
   ·simp at h
  ·simp at h
 ·simp at h
theorem checkKey_run' {kk:KK} {t:TypeId} (hk:KkIs P kk t) (hn:∀ n,kk≠.arr n) (b:Bool) (v:Value) (n:Nat):(Instr.checkKey b (n+1) t v).run P w=.ok () w:=by
 cases kk with
 | int =>
  obtain ⟨k,hu⟩:=hk
  simp [Instr.checkKey,run_underlying hu]
 | str =>
  have hu:P.underlying t=some .string:=hk
  simp [Instr.checkKey,run_underlying hu]
 | arr m=>exact absurd rfl (hn m)
theorem range_ok {f:Nat→PUnit→Sem (ForInStep PUnit)}:∀ (l:List Nat),(∀ i,i∈l→(f i ⟨⟩).run P w=.ok (.yield ⟨⟩) w)→(forIn l PUnit.unit f:Sem PUnit).run P w=.ok ⟨⟩ w
 | [],_=>by simp
 | i::l,h=>by
  simp only [List.forIn_cons,Sem.run_bind,h i (by simp),Result.andThen_ok]
  exact range_ok l fun j hj=>h j (List.mem_cons_of_mem _ hj)
end
end Go.Ab
