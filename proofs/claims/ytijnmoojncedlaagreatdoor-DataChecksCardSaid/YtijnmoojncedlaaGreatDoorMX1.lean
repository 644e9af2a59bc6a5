/- What is proved: contracts of the program's and the reference's functions in the evaluator, and plain laws on them. Conditions: as each states. -/
import Derived.Calls
import Derived.Below
import Derived.Laws.Cells
import Derived.Laws.CopyRow
import Derived.Laws.Entries
import Derived.Lib.Strings
import Derived.Laws.Strings
import Derived.Laws.StructEq
import Derived.Laws.BytesArg
import Derived.MapKept
import Derived.Shelf.Abstract
import Derived.Lib.AppendStr
import Derived.Lib.FrozenHead
import Derived.IntWalk
import Derived.Still
import Derived.Laws.Sem
import Derived.Deep.Draws
import Derived.Shelf.Strings.BuilderF
set_option linter.unusedSimpArgs false
set_option linter.unusedSectionVars false
set_option linter.unusedVariables false
set_option maxRecDepth 100000
namespace Go.Ab
open Go Go.Proofs
inductive AV where
 | int (k:IntKind) (n:Int)
 | bool (b:Bool)
 | str (s:List UInt8)
 | nilp | nilf | nili | nilm | nils
 | emp (b:Bool)
 | rows (rs:List (List AV))
 | lit (rs:List (List AV))
 | rptr (row:List AV) (o:Nat)
 | agg (cs:List AV)
 | tup (vs:List AV)
 | fn (f:FuncId) (caps:List AV)
 | bnd (f:FuncId) (fs:List AV)
 | iface (t:TypeId) (v:AV)
 | ptr (l o:Nat)
 | own (l n:Nat)
 | optr (l n i o:Nat)
 | mp (l:Nat)
 | tptr (t:TypeId) (l o:Nat)
 | town (t:TypeId) (l n:Nat)
 | any
 deriving Inhabited
inductive Blk where
 | cells (cs:List AV)
 | rows (sz:Nat) (rs:List (List AV)) (wr:Bool)
 | hole
 | map (es:List (AV×AV))
 deriving Inhabited
abbrev Zd:=List Blk
abbrev Fr:=List (Nat×AV)
inductive Pop where
 | cell (i d:Nat)
 | row (i d j c:Nat)
 | new (i d c z:Nat) (q:Bool)
 | tidy
 | whenF (i:Nat)
 | whenN (i d c:Nat)
 | whenT (i:Nat)
 | opt (i c:Nat)
 | keep (l:List Nat)
inductive It where
 | code (c:Code)
 | blk (id n:Nat)
 | lp (c:Code) (live:Option (List Nat×List Nat)) (n:Nat)
 | pst (live:List Nat) (ops:List Pop)
inductive Tk where
 | run (f:FuncId) (k:Nat) (ks:List It) (fr:Fr) (h:Zd)
 | call (f:FuncId) (args:List AV) (h:Zd)
abbrev Res:=Option (AV×Zd)
structure Cfg where
 P:Program
 prim:FuncId→List AV→Option AV
 primH:FuncId→List AV→Zd→Option (AV×Zd)
 ownA:FuncId→List (Nat×Nat×TypeId)
 bT:TypeId
 wrT:TypeId→Bool
 nlT:TypeId→Bool
 nlA:FuncId→Bool
 live:FuncId→Nat→Option (List Nat×List (Nat×Option Nat×Nat×Bool)×List Nat)
 ret:FuncId→Nat
 good:FuncId→Bool
 dyn:FuncId→Nat→List (Nat×Nat)
 out:FuncId→Nat→Option (List Nat)
 post:FuncId→List (Nat×List Nat×List Pop)
def get:Fr→Nat→AV
 | [],_=>.any
 | (j,v)::fr,i=>if j=i then v else get fr i
def put (fr:Fr):Option Nat→AV→Fr
 | some d,v=>(d,v)::fr
 | none,_=>fr
mutual
def Xr:Value→AV
 | .int k n=>.int k n
 | .bool b=>.bool b
 | .string s=>.str s.data.toList
 | .pointer none=>.nilp
 | .nilFunc=>.nilf
 | .nilIface=>.nili
 | .map none=>.nilm
 | .slice none 0 0=>.nils
 | .agg ⟨cs⟩=>.agg (ZhB cs)
 | _=>.any
def ZhB:List Value→List AV
 | []=>[]
 | v::vs=>Xr v::ZhB vs
end
def ev (fr:Fr):Operand→AV
 | .tmp t=>get fr t
 | .const v=>Xr v
 | .func f=>.fn f []
 | .global _=>.any
def ZB:AV→Bool
 | .agg _ | .tup _ | .any=>false
 | _=>true
def Zl:List AV→Bool
 | []=>true
 | a::r=>ZB a&&Zl r
def cellsOf:AV→Option (List AV)
 | .agg cs=>if Zl cs then some cs else none
 | .tup _ | .any=>none
 | v=>some [v]
inductive Sh where
 | one
 | agg (n:Nat)
def sh (P:Program) (t:TypeId):Option Sh :=
 match P.underlying t,P.info? t with
 | some (.struct _),some i | some (.array _ _),some i=>some (.agg i.size)
 | some _,some _=>some .one
 | _,_=>none
def zv (P:Program) (t:TypeId):Option AV :=
 match P.info? t with
 | some i=>i.zero.map Xr
 | none=>none
def es (P:Program) (t:TypeId):Option (Nat×Nat) :=
 match P.underlying t with
 | some (.slice e)=>match P.info? e with
  | some i=>match i.zero with
   | some y=>if y.cells.size=i.size then some (i.size,i.bytes) else none
   | none=>none
  | none=>none
 | _=>none
def ar (P:Program) (t:TypeId):Option (Nat×TypeId×Nat) :=
 match P.underlying t with
 | some (.array n e)=>(P.info? e).map fun i=>(n,e,i.size)
 | _=>none
def fo (P:Program) (t:TypeId) (f:Nat):Option (Nat×TypeId) :=
 match P.underlying t with
 | some (.struct fs)=>match fs[f]? with
  | some x=>match P.info? x.type with
   | some i=>if i.size=0 then none else some (x.offset,x.type)
   | none=>none
  | none=>none
 | _=>none
def part (s:Option Sh) (cs:List AV) (o:Nat):Option AV :=
 match s with
 | some .one=>cs[o]?
 | some (.agg n)=>if o+n≤cs.length then some (.agg ((cs.drop o).take n)) else none
 | none=>none
def Zee (P:Program) (t:TypeId) (p:AV) (h:Zd):Option AV :=
 match p with
 | .rptr row o=>part (sh P t) row o
 | .ptr l o=>match h[l]? with
  | some (.cells cs)=>part (sh P t) cs o
  | _=>none
 | .optr l n i o=>match h[l]? with
  | some (.rows _ rs _)=>if rs.length=n then match rs[i]? with
    | some row=>part (sh P t) row o
    | none=>none
   else none
  | _=>none
 | _=>none
def splice (cs:List AV) (o:Nat) (vs:List AV):List AV:=cs.take o++vs++cs.drop (o+vs.length)
mutual
def Zm:AV→List Nat
 | .ptr l _ | .own l _ | .optr l _ _ _ | .mp l | .tptr _ l _ | .town _ l _=>[l]
 | .agg cs | .tup cs | .fn _ cs | .bnd _ cs=>Zk cs
 | .iface _ a=>Zm a
 | _=>[]
def Zk:List AV→List Nat
 | []=>[]
 | a::r=>Zm a++Zk r
end
def ZL:List (List AV)→List Nat
 | []=>[]
 | row::r=>Zk row++ZL r
mutual
def ZJ (h:Zd):AV→Option AV
 | .own l n=>match h[l]? with
  | some (.rows _ rs wr)=>if rs.length=n∧(wr=false∧ZL rs=[]) then some (.rows rs) else none
  | _=>none
 | .nils=>some (.rows [])
 | .lit rs=>some (.rows rs)
 | .agg cs=>match Yk h cs with
  | some cs=>some (.agg cs)
  | none=>none
 | .tup cs=>match Yk h cs with
  | some cs=>some (.tup cs)
  | none=>none
 | .fn f cs=>match Yk h cs with
  | some cs=>some (.fn f cs)
  | none=>none
 | .bnd f cs=>match Yk h cs with
  | some cs=>some (.bnd f cs)
  | none=>none
 | .iface t a=>match ZJ h a with
  | some a=>some (.iface t a)
  | none=>none
 | .ptr _ _ | .optr _ _ _ _ | .mp _ | .tptr _ _ _ | .town _ _ _=>none
 | a=>some a
def Yk (h:Zd):List AV→Option (List AV)
 | []=>some []
 | a::r=>match ZJ h a with
  | some a=>match Yk h r with
   | some r=>some (a::r)
   | none=>none
  | none=>none
end
mutual
def ZS (h:Zd):AV→Option AV
 | .own l n=>match h[l]? with
  | some (.rows _ rs wr)=>if rs.length=n∧(wr=false∧ZL rs=[]) then some (.rows rs) else none
  | _=>none
 | .agg cs=>match YN h cs with
  | some cs=>some (.agg cs)
  | none=>none
 | .tup cs=>match YN h cs with
  | some cs=>some (.tup cs)
  | none=>none
 | .fn f cs=>match YN h cs with
  | some cs=>some (.fn f cs)
  | none=>none
 | .bnd f cs=>match YN h cs with
  | some cs=>some (.bnd f cs)
  | none=>none
 | .iface t a=>match ZS h a with
  | some a=>some (.iface t a)
  | none=>none
 | .ptr _ _ | .optr _ _ _ _ | .mp _ | .tptr _ _ _ | .town _ _ _=>none
 | a=>some a
def YN (h:Zd):List AV→Option (List AV)
 | []=>some []
 | a::r=>match ZS h a with
  | some a=>match YN h r with
   | some r=>some (a::r)
   | none=>none
  | none=>none
end
def pur (kn:Bool) (h:Zd) (v:AV):Option AV:=match kn with
 | true=>ZS h v
 | false=>ZJ h v
def Zj7 (h:Zd) (v:AV):AV:=match ZJ h v with
 | some v=>v
 | none=>v
def YG (P:Program) (t:TypeId):Option Nat :=
 match P.info? t with
 | some i=>some i.size
 | none=>none
def Zdd (P:Program) (t:TypeId) (p v:AV) (h:Zd):Option Zd :=
 match p with
 | .ptr l o=>match h[l]? with
  | some (.cells cs)=>match cellsOf v with
   | some vs=>if YG P t=some vs.length∧o+vs.length≤cs.length then some (h.set l (.cells (splice cs o vs))) else none
   | none=>none
  | _=>none
 | .optr l n i o=>match h[l]? with
  | some (.rows sz rs true)=>match cellsOf (Zj7 h v) with
    | some vs=>if rs.length=n then match rs[i]? with
      | some row=>if YG P t=some vs.length∧o+vs.length≤row.length then some (h.set l (.rows sz (rs.set i (splice row o vs)) true)) else none
      | none=>none
     else none
    | none=>none
  | _=>none
 | _=>none
def ZC (k:IntKind) (n:Int):Int:=k.wrap n
def ZBN (k:IntKind) (a b:Int):Int:=ZC k (a*2 ^ (min b.toNat k.bits))
def Zp2 (k:IntKind) (a b:Int):Int:=a.fdiv (2 ^ (min b.toNat k.bits))
def Zhn (op:BinOp) (k:IntKind) (a b:Int):Option AV :=
 match op with
 | .shl=>if b < 0 then none else some (.int k (ZBN k a b))
 | .shr=>if b < 0 then none else some (.int k (Zp2 k a b))
 | _=>none
def Zo1 (op:BinOp) (k:IntKind) (x y:Int):Int :=
 match op with
 | .and=>ZC k (BitVec.ofInt k.bits x &&& BitVec.ofInt k.bits y).toNat
 | .or=>ZC k (BitVec.ofInt k.bits x ||| BitVec.ofInt k.bits y).toNat
 | _=>ZC k (BitVec.ofInt k.bits x ^^^ BitVec.ofInt k.bits y).toNat
def Ztk (op:BinOp) (k:IntKind) (a b:Int):Option AV :=
 match op with
 | .add=>some (.int k (ZC k (a+b)))
 | .sub=>some (.int k (ZC k (a - b)))
 | .mul=>some (.int k (ZC k (a*b)))
 | .quo=>if b=0 then none else some (.int k (ZC k (a.tdiv b)))
 | .rem=>if b=0 then none else some (.int k (a.tmod b))
 | .eql=>some (.bool (a==b))
 | .neq=>some (.bool (a != b))
 | .lss=>some (.bool (decide (a < b)))
 | .leq=>some (.bool (decide (a≤b)))
 | .gtr=>some (.bool (decide (b < a)))
 | .geq=>some (.bool (decide (b≤a)))
 | .shl=>if b < 0 then none else some (.int k (ZBN k a b))
 | .shr=>if b < 0 then none else some (.int k (Zp2 k a b))
 | .and=>some (.int k (Zo1 .and k a b))
 | .or=>some (.int k (Zo1 .or k a b))
 | .xor=>some (.int k (Zo1 .xor k a b))
 | .andNot=>none
def XT:Nat:=4611686018427387904
def Zsm (op:BinOp) (a b:List UInt8):Option AV :=
 match op with
 | .add=>if a.length+b.length≤XT then some (.str (a++b)) else none
 | .eql=>some (.bool (a==b))
 | .neq=>some (.bool (!(a==b)))
 | .lss=>some (.bool (Op.bytesLess a b))
 | .leq=>some (.bool (Op.bytesLess a b||a==b))
 | .gtr=>some (.bool (!(Op.bytesLess a b||a==b)))
 | .geq=>some (.bool (!Op.bytesLess a b))
 | _=>none
inductive FK where
 | int | bool | str
def ZeI:FK→AV→AV→Option Bool
 | .int,.int k a,.int k' b=>if k=k' then some (a==b) else none
 | .bool,.bool a,.bool b=>some (a==b)
 | .str,.str a,.str b=>some (a==b)
 | _,_,_=>none
def Y1:List FK→List AV→List AV→Option Bool
 | [],[],[]=>some true
 | k::ks,a::r,b::s=>match ZeI k a b with
  | some x=>match Y1 ks r s with
   | some y=>some (x&&y)
   | none=>none
  | none=>none
 | _,_,_=>none
def ZnO:Option Bool→Option AV
 | some b=>some (.bool (!b))
 | none=>none
def Znv:Option Bool→Option AV
 | some b=>some (.bool b)
 | none=>none
def Zff (P:Program) (t:TypeId):Option FK :=
 match P.underlying t with
 | some (.int _)=>some .int
 | some .bool=>some .bool
 | some .string=>some .str
 | _=>none
def WX (P:Program):Nat→List Field→Option (List FK)
 | _,[]=>some []
 | n,f::r=>if f.offset=n∧f.name ≠ "_" then match Zff P f.type with
   | some k=>match WX P (n+1) r with
    | some ks=>some (k::ks)
    | none=>none
   | none=>none
  else none
def Zit (P:Program) (t:TypeId):Option (List FK) :=
 match P.underlying t,sh P t with
 | some (.struct fs),some (.agg n)=>if P.stoodInHeld t=false then match WX P 0 fs.toList with
   | some ks=>if ks.length=n then some ks else none
   | none=>none
  else none
 | _,_=>none
def XP (P:Program):Nat→List Field→Option (List FK)
 | _,[]=>some []
 | n,f::r=>if f.offset=n∧f.name ≠ "_" then match Zff P f.type with
   | some k=>match XP P (n+1) r with
    | some ks=>some (k::ks)
    | none=>none
   | none=>match Zit P f.type with
    | some l=>match XP P (n+l.length) r with
     | some ks=>some (l++ks)
     | none=>none
    | none=>none
  else none
def flat (P:Program) (t:TypeId):Option (List FK) :=
 match P.underlying t with
 | some (.struct fs)=>if P.stoodInHeld t=false∧P.eqGuardType P.depth t=false then XP P 0 fs.toList else none
 | _=>none
inductive CK where
 | bool | iface | ptr | fn | map | flat (ks:List FK) | no
def ck (P:Program) (t:TypeId):CK :=
 match P.underlying t with
 | some .bool=>.bool
 | some (.interface _)=>.iface
 | some (.pointer _)=>.ptr
 | some (.func _ _ _)=>.fn
 | some (.map _ _)=>.map
 | _=>match flat P t with
  | some ks=>.flat ks
  | none=>.no
def eqV (k:Bool):CK→AV→AV→Option Bool
 | .bool,.bool a,.bool b=>some (a==b)
 | .flat ks,.agg a,.agg b=>Y1 ks a b
 | .iface,.nili,.nili=>if k then some true else none
 | .iface,.nili,.iface _ _=>some false
 | .iface,.iface _ _,.nili=>some false
 | .ptr,.nilp,.nilp=>some true
 | .ptr,.nilp,.ptr _ _=>some false
 | .ptr,.ptr _ _,.nilp=>some false
 | .ptr,.optr _ _ _ _,.nilp=>some false
 | .ptr,.rptr _ _,.nilp=>some false
 | .ptr,.tptr _ _ _,.nilp=>some false
 | .fn,.nilf,.nilf=>some true
 | .fn,.fn _ _,.nilf=>some false
 | .fn,.bnd _ _,.nilf=>some false
 | .fn,.nilf,.fn _ _=>some false
 | .map,.nilm,.nilm=>some true
 | .map,.mp _,.nilm=>some false
 | _,_,_=>none
def Zqe (op:BinOp) (r:Option Bool):Option AV :=
 match op with
 | .eql=>Znv r
 | .neq=>ZnO r
 | _=>none
def Zrt (P:Program) (op:BinOp) (t:TypeId) (k:Bool) (x y:AV):Option AV :=
 match x,y with
 | .int k a,.int k' b=>if k=k' then Ztk op k a b else Zhn op k a b
 | .str a,.str b=>Zsm op a b
 | x,y=>Zqe op (eqV k (ck P t) x y)
def aUn (op:UnOp) (x:AV):Option AV :=
 match op,x with
 | .not,.bool b=>some (.bool !b)
 | .neg,.int k a=>some (.int k (ZC k (0 - a)))
 | _,_=>none
def QT (P:Program) (t:TypeId):Bool :=
 match P.underlying t with
 | some (.slice _)=>true
 | _=>false
def Zf2 (h:Zd):AV→Option Bool
 | .nils=>some true
 | .emp b=>some b
 | .rows rs | .lit rs=>if rs.isEmpty=true then none else some false
 | .own l n=>match h[l]? with
  | some (.rows _ rs _)=>if rs.length=n∧0 < n then some false else none
  | _=>none
 | _=>none
def ZeX (P:Program) (op:BinOp) (t:TypeId) (h:Zd) (x:AV):AV→Option AV
 | .nils=>if QT P t=true then Zqe op (Zf2 h x) else none
 | _=>none
def orV (r:Option AV):Option AV→Option AV
 | some v=>some v
 | none=>r
def val (h:Zd):Option AV→Option (AV×Zd)
 | some v=>some (v,h)
 | none=>none
def WO:Option Zd→Option (AV×Zd)
 | some h=>some (.any,h)
 | none=>none
def pick:AV→AV→AV→Option AV
 | .bool c,a,b=>some (bif c then a else b)
 | _,_,_=>none
def Xj:Blk→List Nat
 | .cells cs=>Zk cs
 | .rows _ rs _=>ZL rs
 | _=>[]
def ZP:Zd→List Nat
 | []=>[]
 | b::r=>Xj b++ZP r
def Wj:Fr→List Nat
 | []=>[]
 | (_,v)::r=>Zm v++Wj r
def Z6 (n:Nat):List Nat→Bool
 | []=>true
 | l::r=>decide (l < n)&&Z6 n r
mutual
def ren (σ:Nat→Nat):AV→AV
 | .ptr l o=>.ptr (σ l) o
 | .own l n=>.own (σ l) n
 | .optr l n i o=>.optr (σ l) n i o
 | .mp l=>.mp (σ l)
 | .tptr t l o=>.tptr t (σ l) o
 | .town t l n=>.town t (σ l) n
 | .agg cs=>.agg (XI σ cs)
 | .tup cs=>.tup (XI σ cs)
 | .fn f cs=>.fn f (XI σ cs)
 | .bnd f cs=>.bnd f (XI σ cs)
 | .iface t a=>.iface t (ren σ a)
 | a=>a
def XI (σ:Nat→Nat):List AV→List AV
 | []=>[]
 | a::r=>ren σ a::XI σ r
end
def XK (σ:Nat→Nat):List (List AV)→List (List AV)
 | []=>[]
 | row::r=>XI σ row::XK σ r
def Zap (σ:Nat→Nat):Blk→Blk
 | .cells cs=>.cells (XI σ cs)
 | .rows z rs wr=>.rows z (XK σ rs) wr
 | b=>b
mutual
def Ys (h:Zd):AV→Option AV
 | .own l n=>match h[l]? with
  | some (.rows _ rs wr)=>if wr=true∨ZL rs≠[] then some (.own l n) else if rs.length=n then some (.rows rs) else none
  | _=>none
 | .nils=>some (.rows [])
 | .lit rs=>some (.rows rs)
 | .agg cs=>match WC h cs with
  | some cs=>some (.agg cs)
  | none=>none
 | a=>some a
def WC (h:Zd):List AV→Option (List AV)
 | []=>some []
 | a::r=>match Ys h a with
  | some a=>match WC h r with
   | some r=>some (a::r)
   | none=>none
  | none=>none
end
def YO (h:Zd):Nat→List Nat→List Nat→List Nat
 | 0,_,s=>s
 | _+1,[],s=>s
 | n+1,l::r,s=>if s.contains l then YO h n r s else match h[l]? with
  | some b=>YO h n (r++Xj b) (s++[l])
  | none=>YO h n r (s++[l])
def YX:List Nat→Nat→Nat
 | [],_=>0
 | x::r,l=>if x=l then 0 else YX r l+1
def Y4 (ls:List Nat) (m:Nat) (i:Nat):Nat:=match ls[i]? with
 | some l=>l
 | none=>m+(i - ls.length)
def sub (h:Zd) (σ:Nat→Nat):List Nat→Option Zd
 | []=>some []
 | l::r=>match h[l]? with
  | some b=>match sub h σ r with
   | some hs=>some (Zap σ b::hs)
   | none=>none
  | none=>none
def back (σ:Nat→Nat):List Nat→Zd→Zd→Zd
 | l::ls,b::bs,h=>back σ ls bs (h.set l (Zap σ b))
 | _,_,h=>h
def Yt (h:Zd) (ls:List Nat) (r:AV) (hs:Zd):Option (AV×Zd) :=
 some (ren (Y4 ls h.length) r,back (Y4 ls h.length) ls hs h++(hs.drop ls.length).map (Zap (Y4 ls h.length)))
def X4 (h:Zd):Res→Option (AV×Zd)
 | some (r,[])=>some (r,h)
 | some (.own 0 n,[b])=>if Xj b=[] then some (.own h.length n,h++[b]) else none
 | some (r,b::hs)=>Yt h [] r (b::hs)
 | none=>none
def QA (h:Zd) (ls:List Nat):Res→Option (AV×Zd)
 | some (r,hs)=>if hs.length=ls.length then some (ren (Y4 ls h.length) r,back (Y4 ls h.length) ls hs h)
  else if hs.length=ls.length+1 then match hs[ls.length]? with
   | some (.rows z rs wr)=>if ZL rs=[] then some (ren (Y4 ls h.length) r,back (Y4 ls h.length) ls hs h++[.rows z rs wr]) else Yt h ls r hs
   | _=>Yt h ls r hs
  else if ls.length≤hs.length then Yt h ls r hs else none
 | none=>none
def Jy (F:Tk→Res) (g:FuncId) (h:Zd) (ls:List Nat) (args:List AV):Option (AV×Zd) :=
 if Z6 ls.length ((Zk args).map (YX ls)) then match sub h (YX ls) ls with
  | some hs=>if Z6 ls.length (ZP hs) then QA h ls (F (.call g (XI (YX ls) args) hs)) else none
  | none=>none
 else none
def XQ (F:Tk→Res) (g:FuncId) (h:Zd) (args:List AV):Option (List AV)→Option (AV×Zd)
 | some pure=>X4 h (F (.call g pure []))
 | none=>match WC h args with
  | some args=>Jy F g h (YO h 100 (Zk args) []) args
  | none=>none
def Zdy (nl:Bool) (h:Zd) (args:List AV):Option (List AV):=match nl with
 | true=>YN h args
 | false=>Yk h args
def Yv (nl:FuncId→Bool) (F:Tk→Res) (h:Zd) (args:List AV):AV→Option (AV×Zd)
 | .fn g caps=>XQ F g h (args++caps) (Zdy (nl g) h (args++caps))
 | .bnd g fs=>XQ F g h (fs++args) (Zdy (nl g) h (fs++args))
 | _=>none
def ZcT (i:Nat):AV→Option AV
 | .tup l=>l[i]?
 | _=>none
def Zhu (n:Nat):AV→Option AV
 | .ptr l o=>some (.ptr l (o+n))
 | .rptr r o=>some (.rptr r (o+n))
 | .optr l m i o=>some (.optr l m i (o+n))
 | .tptr _ l o=>some (.ptr l (o+n))
 | _=>none
def Zir (x:AV):Option (Nat×TypeId)→Option AV
 | some (o,_)=>Zhu o x
 | none=>none
def Zh8 (P:Program) (x:AV):Option (Nat×TypeId)→Option AV
 | some (o,t)=>match x with
  | .agg cs=>part (sh P t) cs o
  | _=>none
 | none=>none
def at? {α:Type} (l:List α) (i:Int):Option α:=if 0≤i then l[i.toNat]? else none
def Zmb (z:Nat) (row:List AV):Option AV:=if row.length=z then some (.rptr row 0) else none
def Zb2 (P:Program) (t:TypeId) (h:Zd) (i:AV) (x:AV):Option AV :=
 match i with
 | .int _ i=>match x with
  | .rows rs | .lit rs=>match es P t with
   | some (z,_)=>match at? rs i with
    | some row=>Zmb z row
    | none=>none
   | none=>none
  | .own l n=>match es P t with
   | some (z,_)=>match h[l]? with
    | some (.rows sz rs _)=>if rs.length=n∧sz=z then match at? rs i with
      | some _=>some (.optr l n i.toNat 0)
      | none=>none
     else none
    | _=>none
   | none=>none
  | .ptr l o=>match ar P t with
   | some (n,_,z)=>if 0≤i∧i < (n:Int) then some (.ptr l (o+i.toNat*z)) else none
   | none=>none
  | _=>none
 | _=>none
def ZeT (n:Nat):Option AV→Option (Option Int)
 | none=>some none
 | some (.int _ i)=>if 0≤i∧i≤(n:Int) then some (some i) else none
 | _=>none
def low:Option (Option Int)→Nat→Option Nat
 | some (some i),h=>if i≤(h:Int) then some i.toNat else none
 | some none,_=>some 0
 | none,_=>none
def ZoK:Option (Option Int)→Nat→Option Nat
 | some (some i),_=>some i.toNat
 | some none,n=>some n
 | none,_=>none
def cut {α:Type} (l:List α) (a b:Nat):List α:=(l.drop a).take (b - a)
def Qz (n:Nat) (lo hi:Option AV):Option (Nat×Nat) :=
 match ZoK (ZeT n hi) n with
 | some b=>match low (ZeT n lo) b with
  | some a=>some (a,b)
  | none=>none
 | none=>none
inductive TK where
 | str
 | slice (z b:Nat)
 | arr (n:Nat)
 | other
def tk (P:Program) (t:TypeId):TK :=
 match P.underlying t with
 | some .string=>.str
 | some (.slice e)=>match P.info? e with
  | some i=>.slice i.size i.bytes
  | none=>.other
 | some (.array n e)=>match P.info? e with
  | some _=>.arr n
  | none=>.other
 | _=>.other
def YB (z:Nat):List (List AV)→Bool
 | []=>true
 | r::rs=>r.length==z&&YB z rs
def Zig (lo hi:Option AV):AV→Option AV
 | .str s=>match Qz s.length lo hi with
  | some (a,b)=>some (.str (cut s a b))
  | none=>none
 | _=>none
def Zfj (h:Zd) (z:Nat) (lo hi:Option AV):AV→Option AV
 | .rows rs | .lit rs=>match Qz rs.length lo hi with
  | some (a,b)=>if YB z rs then some (.rows (cut rs a b)) else none
  | none=>none
 | .nils=>match Qz 0 lo hi with
  | some (a,b)=>some (.rows (cut [] a b))
  | none=>none
 | .own l n=>match h[l]? with
  | some (.rows y rs false)=>if rs.length=n∧(y=z∧ZL rs=[]) then match Qz rs.length lo hi with
    | some (a,b)=>some (.rows (cut rs a b))
    | none=>none
   else none
  | _=>none
 | _=>none
def ZcV (n:Nat) (lo hi:Option AV):AV→Option AV
 | .ptr _ _=>match Qz n lo hi with
  | some (a,b)=>some (.rows (List.replicate (b - a) []))
  | none=>none
 | _=>none
def Zac (h:Zd) (lo hi:Option AV) (x:AV):TK→Option AV
 | .str=>Zig lo hi x
 | .slice z _=>Zfj h z lo hi x
 | .arr n=>ZcV n lo hi x
 | .other=>none
def ZqK:TK→AV→Option AV
 | .str,.str s=>some (.int .i64 (s.length:Int))
 | .slice _ _,.rows rs | .slice _ _,.lit rs=>some (.int .i64 (rs.length:Int))
 | .slice _ _,.own _ n=>some (.int .i64 (n:Int))
 | .slice _ _,.nils=>some (.int .i64 0)
 | .slice _ _,.emp _=>some (.int .i64 0)
 | .slice _ _,.town _ _ n=>some (.int .i64 (n:Int))
 | _,_=>none
def Zrg:TK→AV→Option AV
 | .slice _ _,.nils=>some (.int .i64 0)
 | _,_=>none
def Zip (P:Program) (t:TypeId) (i:AV) (x:AV):Option AV :=
 match i with
 | .int _ i=>match x with
  | .str s=>match tk P t with
   | .str=>(match at? s i with
    | some b=>some (.int .u8 (b.toNat:Int))
    | none=>none)
   | _=>none
  | .agg cs=>match ar P t with
   | some (n,e,z)=>if 0≤i∧i < (n:Int) then part (sh P e) cs (i.toNat*z) else none
   | none=>none
  | _=>none
 | _=>none
def ZkM (k:IntKind) (x:Int):List AV→Option AV
 | []=>some (.int k x)
 | .int _ y::r=>ZkM k (if y < x then y else x) r
 | _=>none
def ZkC (k:IntKind) (x:Int):List AV→Option AV
 | []=>some (.int k x)
 | .int _ y::r=>ZkC k (if x < y then y else x) r
 | _=>none
def Zqg:List AV→Option AV
 | .int k x::r=>ZkM k x r
 | _=>none
def ZqZ:List AV→Option AV
 | .int k x::r=>ZkC k x r
 | _=>none
def Zh7 (h:Zd):AV→Option (List (List AV))
 | .rows rs | .lit rs=>some rs
 | .nils=>some []
 | .emp _=>some []
 | .own l n=>match h[l]? with
  | some (.rows _ rs _)=>if rs.length=n then some rs else none
  | _=>none
 | _=>none
def Zg:Nat:=35184372088832
def YQ (wq:Bool) (h:Zd) (z b:Nat) (xs:AV) (ys:List (List AV)):Option (AV×Zd) :=
 match xs with
 | .nils=>if ys.length*(b+1)≤Zg then some (.own h.length ys.length,h++[.rows z ys wq]) else none
 | .lit rs=>if 0 < ys.length∧YB z rs=true∧(rs.length+ys.length)*(b+1)≤Zg then some (.own h.length (rs.length+ys.length),h++[.rows z (rs++ys) wq]) else if ys=[] then some (.lit rs,h) else none
 | .own l n=>match h[l]? with
  | some (.rows sz rs wr)=>if rs.length=n∧sz=z∧(rs.length+ys.length)*(b+1)≤Zg then some (.own l (n+ys.length),h.set l (.rows sz (rs++ys) wr)) else none
  | _=>none
 | _=>none
def Zx:List UInt8→List (List AV)
 | []=>[]
 | b::r=>[.int .u8 (b.toNat:Int)]::Zx r
def elT (P:Program) (t:TypeId):Option TypeId :=
 match P.underlying t with
 | some (.slice e)=>some e
 | _=>none
def tyO (t:TypeId):Option (AV×Zd)→Option (AV×Zd)
 | some (.own l n,h)=>some (.town t l n,h)
 | _=>none
def Wf (el:Option TypeId) (wq:Bool) (h:Zd) (z b:Nat) (ys:List (List AV)):AV→Option (AV×Zd)
 | .town t l n=>if el=some t then tyO t (YQ wq h z b (.own l n) ys) else none
 | xs=>YQ wq h z b xs ys
def ZeE (el:Option TypeId) (wq:Bool) (h:Zd) (z b:Nat) (xs:AV):AV→Option (AV×Zd)
 | .str s=>if z=1 then Wf el wq h z b (Zx s) xs else none
 | _=>none
def Zch (P:Program) (wq:Bool) (t u:Option TypeId) (h:Zd):List AV→Option (AV×Zd)
 | [xs,ys]=>match t,u with
  | some t,some u=>match tk P u with
   | .slice _ _=>(match es P t with
   | some (z,b)=>match Zh7 h ys with
    | some ys=>if YB z ys then Wf (elT P t) wq h z b ys xs else none
    | none=>none
   | none=>none)
   | .str=>(match es P t with
   | some (z,b)=>ZeE (elT P t) wq h z b xs ys
   | none=>none)
   | _=>none
  | _,_=>none
 | _=>none
def WZ (kn:Bool) (h:Zd) (ev:Operand→AV) (z:Nat):Nat→List (Nat×Operand)→Option (List (List AV))
 | _,[]=>some []
 | i,(j,x)::r=>if i=j then match pur kn h (ev x) with
   | some v=>match cellsOf v with
    | some cs=>if cs.length=z then match WZ kn h ev z (i+1) r with
      | some rs=>some (cs::rs)
      | none=>none
     else none
    | none=>none
   | none=>none
  else none
def W5 (h:Zd) (ev:Operand→AV) (z:Nat):Nat→List (Nat×Operand)→Option (List (List AV))
 | _,[]=>some []
 | i,(j,x)::r=>if i=j then match cellsOf (Zj7 h (ev x)) with
   | some cs=>if cs.length=z then match W5 h ev z (i+1) r with
     | some rs=>some (cs::rs)
     | none=>none
    else none
   | none=>none
  else none
def Ze9 (n z:Nat) (h:Zd):Option (List (List AV))→Option (AV×Zd)
 | some rs=>if rs.length=n∧n*z≤16777216 then some (.own h.length n,h++[.rows z rs false]) else none
 | none=>none
def Jl (h:Zd) (r:Option (AV×Zd)):Option AV→Option (AV×Zd)
 | some v=>some (v,h)
 | none=>r
def Jv (h:Zd) (ev:Operand→AV) (n:Nat) (parts:List (Nat×Operand)):Option (Nat×Nat)→Option (AV×Zd)
 | some (z,_)=>Ze9 n z h (W5 h ev z 0 parts)
 | none=>none
def Zex (n z:Nat):Option (List (List AV))→Option AV
 | some rs=>if rs.length=n∧n*z≤16777216 then some (.lit rs) else none
 | none=>none
inductive Plc where
 | fields (l:List (Nat×Nat))
 | elems (z:Nat)
def Zaz (P:Program):List Field→Option (List (Nat×Nat))
 | []=>some []
 | f::r=>match P.info? f.type with
  | some i=>match Zaz P r with
   | some l=>some ((f.offset,i.size)::l)
   | none=>none
  | none=>none
def plc (P:Program) (t:TypeId):Option Plc :=
 match P.underlying t with
 | some (.struct fs)=>match Zaz P fs.toList with
  | some l=>some (.fields l)
  | none=>none
 | some (.array _ e)=>match P.info? e with
  | some i=>some (.elems i.size)
  | none=>none
 | _=>none
def ZcF:Plc→Nat→Option (Nat×Nat)
 | .fields l,i=>l[i]?
 | .elems z,i=>some (i*z,z)
def QQ (place:Nat→Option (Nat×Nat)) (ev:Operand→AV):List AV→List (Nat×Operand)→Option AV
 | cs,[]=>some (.agg cs)
 | cs,(i,x)::r=>match place i with
  | some (o,z)=>match cellsOf (ev x) with
   | some vs=>if vs.length=z∧o+vs.length≤cs.length then QQ place ev (splice cs o vs) r else none
   | none=>none
  | none=>none
def ZbN (ev:Operand→AV) (parts:List (Nat×Operand)):Option Plc→Option AV→Option AV
 | some p,some (.agg cs)=>QQ (ZcF p) ev cs parts
 | _,_=>none
def Jh:List (List AV)→Option (List UInt8)
 | []=>some []
 | [.int .u8 n]::r=>match Jh r with
  | some l=>some (UInt8.ofNat n.toNat::l)
  | none=>none
 | _=>none
def Zj5:Option (List UInt8)→Option AV
 | some l=>some (.str l)
 | none=>none
inductive Cv where
 | int (k:IntKind)
 | str
 | bytes
 | ofBytes
 | no
def Jx (P:Program) (a b:TypeId):Cv :=
 match P.underlying a,P.underlying b with
 | some (.int _),some (.int k)=>.int k
 | some .string,some .string=>.str
 | some (.int _),some .string=>.str
 | some .string,some (.slice e)=>match P.underlying e with
  | some (.int .u8)=>.bytes
  | _=>.no
 | some (.slice e),some .string=>match P.underlying e with
  | some (.int .u8)=>.ofBytes
  | _=>.no
 | _,_=>.no
def ZcD (c:Cv) (x:AV):Option AV :=
 match c,x with
 | .int k,.int _ n=>some (.int k (ZC k n))
 | .str,.str s=>some (.str s)
 | .str,.int _ n=>some (.str (Utf8.encode n).data.toList)
 | .bytes,.str s=>some (.rows (Zx s))
 | .ofBytes,.rows rs=>Zj5 (Jh rs)
 | .ofBytes,.lit rs=>Zj5 (Jh rs)
 | .ofBytes,.nils=>some (.str [])
 | _,_=>none
def Zbf:AV→Option AV
 | .ptr l o=>some (.ptr l o)
 | .optr l n i o=>some (.optr l n i o)
 | .rptr r o=>some (.rptr r o)
 | .fn f c=>some (.fn f c)
 | .tptr t l o=>some (.tptr t l o)
 | _=>none
def Zio (P:Program) (t:TypeId) (x:AV):Option AV :=
 match P.underlying t with
 | some (.interface _)=>none
 | some _=>some (.iface t x)
 | none=>none
def Zau (n z:Nat) (a:AV):Option (List (List AV)) :=
 match cellsOf a with
 | some cs=>if cs.length=z then some (List.replicate n cs) else none
 | none=>none
def Wc (P:Program) (t:TypeId):Option AV :=
 match P.underlying t with
 | some (.slice e)=>zv P e
 | _=>none
def Zdj (z:Nat) (n:Int) (h:Zd):Option AV→Option (AV×Zd)
 | some a=>match Zau n.toNat z a with
  | some rs=>some (.own h.length n.toNat,h++[.rows z rs true])
  | none=>none
 | none=>none
def Yg (P:Program) (t:TypeId) (h:Zd) (len cap:AV):Option (AV×Zd) :=
 match len,cap with
 | .int .i64 n,.int .i64 m=>if n=m then match es P t with
  | some (z,b)=>if 0≤n∧n*((b+1:Nat):Int)≤(Zg:Int) then Zdj z n h (Wc P t) else none
  | none=>none
  else none
 | _,_=>none
inductive KK where
 | int | str
 | arr (n:Nat)
def Zem (P:Program) (t:TypeId):Option (KK×TypeId) :=
 match P.underlying t with
 | some (.map k e)=>match P.underlying k with
  | some (.int _)=>some (.int,e)
  | some .string=>some (.str,e)
  | some (.array n i)=>match P.underlying i with
   | some (.int _)=>match P.info? i with
    | some y=>if y.size=1 then some (.arr n,e) else none
    | none=>none
   | _=>none
  | _=>none
 | _=>none
def Qa:Nat→List AV→Bool
 | 0,[]=>true
 | n+1,.int .i64 _::r=>Qa n r
 | _,_=>false
def Xc:KK→AV→AV→Option Bool
 | .int,.int k a,.int k' b=>if k=k' then some (a==b) else none
 | .str,.str a,.str b=>some (a==b)
 | _,_,_=>none
def Yc (kk:KK) (k:AV):List (AV×AV)→Nat→Option (Option (Nat×AV))
 | [],_=>some none
 | (k',v)::r,i=>match Xc kk k k' with
  | some true=>some (some (i,v))
  | some false=>Yc kk k r (i+1)
  | none=>none
def Wo (h:Zd):AV→Option (List (AV×AV))
 | .nilm=>some []
 | .mp l=>match h[l]? with
  | some (.map es)=>some es
  | _=>none
 | _=>none
def Zbi (ok:Bool) (z:Option AV):Option (Option (Nat×AV))→Option AV
 | some (some (_,v))=>some (bif ok then .tup [v,.bool true] else v)
 | some none=>match z with
  | some z=>some (bif ok then .tup [z,.bool false] else z)
  | none=>none
 | none=>none
def ZdA:KK→AV→Bool
 | .arr n,.agg a=>Qa n a
 | .arr _,_=>false
 | _,_=>true
def Zci (P:Program) (t:TypeId) (h:Zd) (x k:AV) (ok:Bool):Option AV :=
 match Zem P t,Wo h x with
 | some (kk,e),some es=>bif ZdA kk k then Zbi ok (zv P e) (Yc kk k es 0) else none
 | _,_=>none
def ZbG:KK→AV→Bool
 | .int,.int _ _=>true
 | .str,.str _=>true
 | .arr n,.agg a=>Qa n a
 | _,_=>false
def WW:AV→AV→Bool
 | .int k a,.int k' b=>decide (k=k')&&!(a==b)
 | .str a,.str b=>!(a==b)
 | _,_=>false
def JE:AV→AV→Bool
 | .int _ a,.int _ b=>decide (a < b)
 | .str a,.str b=>Op.bytesLess a b
 | _,_=>false
def XG (k v:AV):List (AV×AV)→List (AV×AV)
 | []=>[(k,v)]
 | p::r=>if JE k p.1=true then (k,v)::p::r else p::XG k v r
def YK (es:List (AV×AV)) (k v:AV):Option (Nat×AV)→List (AV×AV)
 | some (i,_)=>es.modify i fun _=>(k,v)
 | none=>XG k v es
def Q2 (P:Program) (t:TypeId) (h:Zd) (x k v:AV):Option Zd :=
 match x with
 | .mp l=>match Zem P t,h[l]? with
  | some (kk,_),some (.map es)=>if ZbG kk k=true then match ZJ h v,Yc kk k es 0 with
   | some v,some r=>some (h.set l (.map (YK es k v r)))
   | _,_=>none
   else none
  | _,_=>none
 | _=>none
def evs (ev:Operand→AV):List Operand→List AV
 | []=>[]
 | x::xs=>ev x::evs ev xs
def evo (ev:Operand→AV):Option Operand→Option AV
 | none=>none
 | some x=>some (ev x)
def Wx:Operand→Bool
 | .const _=>true
 | _=>false
def ZdC:Res→Option AV
 | some (r,[])=>some r
 | _=>none
def Zaj (F:Tk→Res) (h:Zd) (args:List AV):AV→Option AV
 | .fn g caps=>match Yk h (args++caps) with
  | some pure=>ZdC (F (.call g pure []))
  | none=>none
 | _=>none
def tk? (P:Program):Option TypeId→TK
 | some t=>tk P t
 | none=>.other
def Zax (P:Program) (t:Option TypeId) (b:Builtin) (args:List AV):Option AV :=
 match b,args with
 | .len,[x]=>ZqK (tk? P t) x
 | .cap,[x]=>Zrg (tk? P t) x
 | .min,l=>Zqg l
 | .max,l=>ZqZ l
 | _,_=>none
def QC (C:Cfg) (F:Tk→Res) (ev:Operand→AV) (h:Zd) (c:Call):Option AV :=
 match c.callee with
 | .value f=>Zaj F h (evs ev c.args.toList) (ev f)
 | .builtin b=>Zax C.P c.argTypes[0]? b (evs ev c.args.toList)
 | .invoke _ _=>none
def Zrq:Operand→Bool
 | .const (.slice none _ _)=>true
 | _=>false
def ZgA (y:Operand) (h:Zd):Zd:=bif Zrq y then h else []
theorem Zrf (y:Operand) (h:Zd):ZgA y h=h∨ZgA y h=[]:=by
 unfold ZgA
 cases Zrq y
 ·exact .inr rfl
 ·exact .inl rfl
def ZH (C:Cfg) (F:Tk→Res) (ev:Operand→AV) (h:Zd):Op→Option AV
 | .move x=>some (ev x)
 | .assign x=>some (ev x)
 | .pick c a b=>pick (ev c) (ev a) (ev b)
 | .build t parts=>ZbN ev parts.toList (plc C.P t) (zv C.P t)
 | .buildSlice t n parts=>match es C.P t with
  | some (z,_)=>Zex n z (WZ (C.nlT t) h ev z 0 parts.toList)
  | none=>none
 | .load t a=>Zee C.P t (ev a) h
 | .nilCheck x=>Zbf (ev x)
 | .binOp op t x y _=>orV (ZeX C.P op t (ZgA y h) (ev x) (ev y)) (Zrt C.P op t (Wx x||Wx y) (ev x) (ev y))
 | .unOp op _ x=>aUn op (ev x)
 | .convert a b x=>ZcD (Jx C.P a b) (ev x)
 | .makeInterface t x=>Zio C.P t (ev x)
 | .makeFunc (.func f) first captured=>if first.size=0 then some (.fn f (evs ev captured.toList)) else if captured.size=0 then some (.bnd f (evs ev first.toList)) else none
 | .slice t x lo hi none=>Zac h (evo ev lo) (evo ev hi) (ev x) (tk C.P t)
 | .fieldAddr t x f=>Zir (ev x) (fo C.P t f)
 | .field t x f=>Zh8 C.P (ev x) (fo C.P t f)
 | .indexAddr t x i=>Zb2 C.P t h (ev i) (ev x)
 | .index t x i=>Zip C.P t (ev i) (ev x)
 | .extract x i=>ZcT i (ev x)
 | .lookup t x i ok=>Zci C.P t h (ev x) (ev i) ok
 | .call c=>QC C F ev h c
 | _=>none
def alloc (h:Zd):Option AV→Option (AV×Zd)
 | some a=>match cellsOf a with
  | some cs=>some (.ptr h.length 0,h++[.cells cs])
  | none=>none
 | none=>none
def ZfA:List Operand→Bool
 | x::_=>Wx x
 | []=>false
def JC (C:Cfg):Option TypeId→Bool
 | some t=>C.wrT t
 | none=>false
def Zaa (C:Cfg) (F:Tk→Res) (ev:Operand→AV) (h:Zd) (c:Call):Option (AV×Zd) :=
 match c.callee with
 | .value f=>Yv C.nlA F h (evs ev c.args.toList) (ev f)
 | .builtin .append=>Zch C.P (ZfA c.args.toList||JC C c.argTypes[0]?) c.argTypes[0]? c.argTypes[1]? h (evs ev c.args.toList)
 | .builtin b=>val h (Zax C.P c.argTypes[0]? b (evs ev c.args.toList))
 | .invoke _ _=>none
def tyP (t:TypeId):Option (AV×Zd)→Option (AV×Zd)
 | some (.ptr l o,h)=>some (.tptr t l o,h)
 | _=>none
def Zc1 (b:Bool) (t:TypeId) (r:Option (AV×Zd)):Option (AV×Zd):=bif b then tyP t r else r
def Zfx (P:Program) (t:TypeId) (h:Zd) (x k:AV):Bool :=
 match x with
 | .mp l=>match Zem P t,h[l]? with
  | some (kk,_),some (.map es)=>match Yc kk k es 0 with
   | some none=>true
   | _=>false
  | _,_=>false
 | _=>false
def Ju (P:Program) (t:TypeId) (h:Zd) (x k v:AV):Option Zd:=bif Zfx P t h x k then Q2 P t h x k v else none
theorem Zag {P:Program} {t:TypeId} {h h':Zd} {x k v:AV} (e:Ju P t h x k v=some h'):Zfx P t h x k=true∧Q2 P t h x k v=some h':=by
 unfold Ju at e
 cases hn:Zfx P t h x k with
 | false=>simp [hn] at e
 | true=>simp only [hn,cond_true] at e;exact ⟨rfl,e⟩
def Z0 (C:Cfg) (F:Tk→Res) (ev:Operand→AV) (h:Zd) (o:Op):Option (AV×Zd) :=
 match o with
 | .alloc t=>Zc1 (t==C.bT) t (alloc h (zv C.P t))
 | .box _ x=>alloc h (some (ev x))
 | .store t a v=>WO (Zdd C.P t (ev a) (ev v) h)
 | .makeSlice t n m=>Yg C.P t h (ev n) (ev m)
 | .buildSlice t n parts=>Jl h (Jv h ev n parts.toList (es C.P t)) (ZH C F ev h (.buildSlice t n parts))
 | .makeMap _ none=>some (.mp h.length,h++[.map []])
 | .mapUpdate t m k x=>WO (Q2 C.P t h (ev m) (ev k) (ev x))
 | .insert t m k x=>WO (Ju C.P t h (ev m) (ev k) (ev x))
 | .call c=>Zaa C F ev h c
 | o=>val h (ZH C F ev h o)
def XH (all:List Oper) (j:Nat):Option Nat :=
 match all[j]? with
 | some o=>o.dst
 | none=>none
def ZbL (fr:Fr):Option Nat→AV
 | some d=>get fr d
 | none=>.any
def Qw (C:Cfg) (F:Tk→Res) (all:List Oper):List Oper→Fr→Zd→Option (Fr×Zd)
 | [],fr,h=>some (fr,h)
 | o::rest,fr,h=>match o.guard with
  | none=>match Z0 C F (ev fr) h o.op with
   | some (v,h)=>Qw C F all rest (put fr o.dst v) h
   | none=>none
  | some (j,want)=>match ZbL fr (XH all j) with
   | .bool b=>if b=want then (match Z0 C F (ev fr) h o.op with
     | some (v,h)=>Qw C F all rest (put fr o.dst v) h
     | none=>none) else Qw C F all rest (put fr o.dst (.tup [])) h
   | .tup []=>Qw C F all rest (put fr o.dst (.tup [])) h
   | _=>none
def ZmG:Op→Bool
 | .move _ | .assign _ | .pick _ _ _ | .build _ _ | .buildSlice _ _ _ | .load _ _ | .nilCheck _ | .binOp _ _ _ _ _ | .unOp _ _ _ | .convert _ _ _ | .makeInterface _ _
 | .makeFunc _ _ _ | .slice _ _ _ _ none | .fieldAddr _ _ _ | .field _ _ _ | .indexAddr _ _ _ | .index _ _ _ | .extract _ _ | .lookup _ _ _ _=>true
 | .call c=>match c.callee with
  | .value _=>true
  | .builtin .len | .builtin .min | .builtin .max=>true
  | _=>false
 | _=>false
def isQ (dy:List (Nat×Nat)) (i:Nat) (o:Op):Bool:=ZmG o&&!dy.any (fun p=>p.1==i)
def alo:Op→Bool
 | .alloc _ | .box _ _ | .makeMap _ none | .makeSlice _ _ _=>true
 | _=>false
def fill (h:Zd) (l:Nat):Option AV→Option (AV×Zd)
 | some a=>match cellsOf a,h[l]? with
  | some cs,some .hole=>some (.ptr l 0,h.set l (.cells cs))
  | _,_=>none
 | none=>none
def ZiK (h:Zd) (l:Nat):Option (AV×Zd) :=
 match h[l]? with
 | some .hole=>some (.mp l,h.set l (.map []))
 | _=>none
def Zju (h:Zd) (l:Nat):Option (AV×Zd)→Option (AV×Zd)
 | some (.own _ n,[b])=>match h[l]? with
  | some .hole=>some (.own l n,h.set l b)
  | _=>none
 | _=>none
def Zay (C:Cfg) (ev:Operand→AV) (h:Zd) (l:Nat):Op→Option (AV×Zd)
 | .alloc t=>fill h l (zv C.P t)
 | .box _ x=>fill h l (some (ev x))
 | .makeMap _ none=>ZiK h l
 | .makeSlice t n m=>Zju h l (Yg C.P t [] (ev n) (ev m))
 | _=>none
def QP:List Oper→Nat
 | []=>0
 | o::r=>(if alo o.op=true then 1 else 0)+QP r
def ZhN (n:Nat) (ops:List Oper) (i:Nat):Nat:=n+QP (ops.take i)
def ZtT (keep:Bool):AV:=bif keep then .nils else .rows []
mutual
def Yf (sub:List (List AV)→Option (List (List AV))) (keep:Bool) (k:Nat) (h:Zd):AV→Option AV
 | .own l n=>match h[l]? with
  | some (.rows _ rs wr)=>if rs.length=n∧(k≤l∨wr=false) then (match sub rs with
   | some rs=>some (.rows rs)
   | none=>none) else none
  | _=>none
 | .nils=>some (ZtT keep)
 | .lit rs=>some (.rows rs)
 | .agg cs=>match Z7 sub keep k h cs with
  | some cs=>some (.agg cs)
  | none=>none
 | .tup cs=>match Z7 sub keep k h cs with
  | some cs=>some (.tup cs)
  | none=>none
 | .fn f cs=>match Z7 sub keep k h cs with
  | some cs=>some (.fn f cs)
  | none=>none
 | .bnd f cs=>match Z7 sub keep k h cs with
  | some cs=>some (.bnd f cs)
  | none=>none
 | .iface t a=>match Yf sub keep k h a with
  | some a=>some (.iface t a)
  | none=>none
 | .ptr l o=>if l < k then some (.ptr l o) else none
 | .mp l=>if l < k then some (.mp l) else none
 | .tptr t l o=>if l < k then some (.tptr t l o) else none
 | .town _ _ _=>none
 | .optr _ _ _ _=>none
 | a=>some a
def Z7 (sub:List (List AV)→Option (List (List AV))) (keep:Bool) (k:Nat) (h:Zd):List AV→Option (List AV)
 | []=>some []
 | a::r=>match Yf sub keep k h a with
  | some a=>match Z7 sub keep k h r with
   | some r=>some (a::r)
   | none=>none
  | none=>none
end
def ZZ (f:List AV→Option (List AV)):List (List AV)→Option (List (List AV))
 | []=>some []
 | row::r=>match f row with
  | some row'=>if Zk row'=[]∧(row'.length=row.length∧Zl row'=true) then (match ZZ f r with
   | some r=>some (row'::r)
   | none=>none) else none
  | none=>none
def Xu (f:List (List AV)→Option (List (List AV))) (rs:List (List AV)):Option (List (List AV)):=if ZL rs=[] then some rs else f rs
def ZkB (keep:Bool) (k:Nat) (h:Zd):List (List AV)→Option (List (List AV)):=Xu fun _=>none
def Zc4 (keep:Bool) (k:Nat) (h:Zd):List (List AV)→Option (List (List AV)):=Xu (ZZ (Z7 (ZkB keep k h) keep k h))
def ZbZ (keep:Bool) (k:Nat) (h:Zd):List (List AV)→Option (List (List AV)):=Xu (ZZ (Z7 (Zc4 keep k h) keep k h))
def Zgu (keep:Bool) (k:Nat) (h:Zd):AV→Option AV:=Yf (ZbZ keep k h) keep k h
def ZuZ (keep:Bool) (k:Nat) (h:Zd):List AV→Option (List AV):=Z7 (ZbZ keep k h) keep k h
def lvR:Res→Res
 | some (r,[])=>some (r,[])
 | some (r,b::hs)=>match Zgu false 0 (b::hs) r with
  | some a=>some (a,[])
  | none=>none
 | none=>none
def lv (F:Tk→Res):Tk→Res
 | .call g args []=>lvR (F (.call g args []))
 | t=>F t
def Xk (C:Cfg) (F:Tk→Res) (dy:List (Nat×Nat)) (pl:Nat→Nat) (i:Nat) (ev:Operand→AV) (h:Zd) (o:Op):Option (AV×Zd) :=
 if isQ dy i o=true then val h (ZH C (lv F) ev h o) else if alo o=true then Zay C ev h (pl i) o else Z0 C F ev h o
def Y7 (h:Zd) (args:List AV):AV→List Nat
 | .fn _ caps=>match Yk h (args++caps) with
  | some _=>[]
  | none=>match WC h (args++caps) with
   | some l=>YO h 100 (Zk l) []
   | none=>[]
 | .bnd _ fs=>match Yk h (fs++args) with
  | some _=>[]
  | none=>match WC h (fs++args) with
   | some l=>YO h 100 (Zk l) []
   | none=>[]
 | _=>[]
def Yh (ev:Operand→AV) (h:Zd):Op→List Nat
 | .store _ a _=>Zm (ev a)
 | .mapUpdate _ m _ _=>Zm (ev m)
 | .insert _ m _ _=>Zm (ev m)
 | .call c=>match c.callee with
  | .value f=>Y7 h (evs ev c.args.toList) (ev f)
  | _=>Zk (evs ev c.args.toList)
 | _=>[]
def Z9 (dy:List (Nat×Nat)) (i:Nat) (ev:Operand→AV) (h:Zd) (o:Op):List Nat :=
 if isQ dy i o=true then [] else Yh ev h o
def eqK:IntKind→IntKind→Bool:=fun a b=>decide (a=b)
mutual
def eqA:AV→AV→Bool
 | .int k a,.int k' b=>eqK k k'&&a==b
 | .bool a,.bool b=>a==b
 | .str a,.str b=>a==b
 | .nilp,.nilp | .nilf,.nilf | .nili,.nili | .nilm,.nilm | .nils,.nils=>true
 | .emp a,.emp b=>a==b
 | .rows a,.rows b=>eqR a b
 | .lit a,.lit b=>eqR a b
 | .rptr a o,.rptr b o'=>eqL a b&&o==o'
 | .agg a,.agg b=>eqL a b
 | .tup a,.tup b=>eqL a b
 | .fn f a,.fn g b=>f==g&&eqL a b
 | .bnd f a,.bnd g b=>f==g&&eqL a b
 | .iface t a,.iface u b=>t==u&&eqA a b
 | .ptr l o,.ptr l' o'=>l==l'&&o==o'
 | .own l n,.own l' n'=>l==l'&&n==n'
 | .optr l n i o,.optr l' n' i' o'=>l==l'&&(n==n'&&(i==i'&&o==o'))
 | .mp l,.mp l'=>l==l'
 | .tptr t l o,.tptr t' l' o'=>t==t'&&(l==l'&&o==o')
 | .town t l n,.town t' l' n'=>t==t'&&(l==l'&&n==n')
 | _,_=>false
def eqL:List AV→List AV→Bool
 | [],[]=>true
 | a::r,b::s=>eqA a b&&eqL r s
 | _,_=>false
def eqR:List (List AV)→List (List AV)→Bool
 | [],[]=>true
 | a::r,b::s=>eqL a b&&eqR r s
 | _,_=>false
end
def eqE:List (AV×AV)→List (AV×AV)→Bool
 | [],[]=>true
 | a::r,b::s=>eqA a.1 b.1&&(eqA a.2 b.2&&eqE r s)
 | _,_=>false
def eqB:Option Blk→Option Blk→Bool
 | some (.cells a),some (.cells b)=>eqL a b
 | some (.rows z a w),some (.rows z' b w')=>z==z'&&(w==w'&&eqR a b)
 | some (.map a),some (.map b)=>eqE a b
 | some .hole,some .hole=>true
 | _,_=>false
def chg (h h':Zd):List Nat→List Nat
 | []=>[]
 | l::r=>if eqB h[l]? h'[l]? = true then chg h h' r else l::chg h h' r
def Ql (dy:List (Nat×Nat)) (i:Nat) (fr:Fr) (w:List Nat):Bool :=
 match dy with
 | []=>true
 | (j,s)::r=>(if j=i then !(Zm (get fr s)).any (fun l=>w.contains l) else true)&&Ql r i fr w
def Xm (C:Cfg) (F:Tk→Res) (dy:List (Nat×Nat)) (pl:Nat→Nat) (all:List Oper):Nat→List Oper→Fr→Zd→Option (Fr×Zd×List (Nat×List Nat))
 | _,[],fr,h=>some (fr,h,[])
 | i,o::rest,fr,h =>
  let go:Option (Fr×Zd×List (Nat×List Nat)):=match Xk C F dy pl i (ev fr) h o.op with
   | some (v,h')=>match Xm C F dy pl all (i+1) rest (put fr o.dst v) h' with
    | some (fr',h'',l)=>some (fr',h'',(i,chg h h' (Z9 dy i (ev fr) h o.op))::l)
    | none=>none
   | none=>none
  match o.guard with
  | none=>go
  | some (j,want)=>match ZbL fr (XH all j) with
   | .bool b=>if b=want then go else Xm C F dy pl all (i+1) rest (put fr o.dst (.tup [])) h
   | .tup []=>Xm C F dy pl all (i+1) rest (put fr o.dst (.tup [])) h
   | _=>none
def YA (dy:List (Nat×Nat)) (fr:Fr):List (Nat×List Nat)→Bool
 | []=>true
 | (i,w)::r=>Ql dy i fr w&&YA dy fr r
def ZdP (dy:List (Nat×Nat)):Option (Fr×Zd×List (Nat×List Nat))→Option (Fr×Zd)
 | some (fr,h,l)=>if YA dy fr l then some (fr,h) else none
 | none=>none
def unwind (id:Nat):List It→Option (Nat×List It)
 | []=>none
 | .blk j n::ks=>if j=id then some (n,ks) else unwind id ks
 | _::ks=>unwind id ks
def restr (fr:Fr):List Nat→Fr
 | []=>[]
 | i::r=>(i,get fr i)::restr fr r
def WN (fr:Fr) (h:Zd):List (Nat×Option Nat×Nat×Bool)→Fr×Zd
 | []=>(fr,h)
 | (i,some d,z,q)::r=>match get fr i with
  | .ptr l o=>match h[l]? with
   | some (.cells cs)=>match cs[o+d]? with
    | some .nils=>WN fr ((h++[Blk.rows z [] q]).set l (.cells (cs.set (o+d) (.own h.length 0)))) r
    | _=>WN fr h r
   | _=>WN fr h r
  | _=>WN fr h r
 | (i,none,z,q)::r=>match get fr i with
  | .nils=>WN ((i,.own h.length 0)::fr) (h++[.rows z [] q]) r
  | _=>WN fr h r
def frz (k:Nat) (live:List Nat):List Nat→Fr→Zd→Option (Fr×Zd)
 | [],fr,h=>some (fr,h)
 | i::r,fr,h=>match get fr i with
  | .own l n=>match h[l]? with
   | some (.rows _ rs _)=>if rs.length=n∧k≤l∧ZL rs=[]∧(Wj (restr ((i,.rows rs)::fr) live)).contains l=false∧(ZP h).contains l=false then frz k live r (restr ((i,.rows rs)::fr) live) (h.set l .hole) else none
   | _=>none
  | .nils=>frz k live r (restr ((i,.rows [])::fr) live) h
  | .lit rs=>frz k live r (restr ((i,.rows rs)::fr) live) h
  | _=>frz k live r fr h
def Zsi (P:Program) (fr:Fr) (h:Zd):ResultVar→Option AV
 | .tmp t=>some (get fr t)
 | .cell a t=>Zee P t (get fr a) h
def ZhS (P:Program) (fr:Fr) (h:Zd):List ResultVar→Option (List AV)
 | []=>some []
 | r::rs=>match Zsi P fr h r with
  | some v=>match ZhS P fr h rs with
   | some vs=>some (v::vs)
   | none=>none
  | none=>none
def Zak:List AV→AV
 | [v]=>v
 | vs=>.tup vs
def ZcI (k:Nat) (h:Zd) (r:AV):Res :=
 match r with
 | .own l n=>match h[l]? with
  | some (.rows z rs wr)=>if rs.length=n∧k≤l∧ZL rs=[] then some (.own k n,h.take k++[.rows z rs wr]) else none
  | _=>none
 | .lit rs=>some (.lit rs,h.take k)
 | .nils=>some (.own k 0,h.take k++[.rows 0 [] false])
 | _=>none
def Zlg (z:Nat) (k:Nat) (h:Zd) (r:AV):Res :=
 match r with
 | .nils=>some (.own k 0,h.take k++[.rows z [] false])
 | r=>ZcI k h r
def Zfr (k:Nat) (h:Zd):Option AV→Res
 | some a=>some (a,h.take k)
 | none=>none
def JW (k:Nat) (h:Zd) (r:Res):Res:=if Z6 k (ZP (h.take k)) then r else none
def ZeK (h:Zd) (ls:List Nat) (r:AV):Res:=match sub h (YX ls) ls with
 | some hs=>if Z6 ls.length (ZP hs)=true∧Z6 ls.length ((Zm r).map (YX ls))=true then some (ren (YX ls) r,hs) else none
 | none=>none
def Zil (k:Nat) (h:Zd) (r:AV):Res:=ZeK h (YO h 1000 (ZP (h.take k)++Zm r) (List.range k)) r
def ZcC (mode:Nat) (k:Nat) (h:Zd):Option (List AV)→Res
 | some vs=>match mode with
   | 0=>JW k h (Zfr k h (Zgu false k h (Zak vs)))
   | 1=>JW k h (ZcI k h (Zak vs))
   | 2=>JW k h (Zfr k h (Zgu true k h (Zak vs)))
   | 3=>Zil k h (Zak vs)
   | z=>JW k h (Zlg (z - 10) k h (Zak vs))
 | none=>none
def ZcB (C:Cfg) (f:FuncId) (k:Nat) (fr:Fr) (h:Zd):Res :=
 match C.P.funcs[f]? with
 | some fn=>ZcC (C.ret f) k h (ZhS C.P fr h fn.results.toList)
 | none=>none
def X9 (n:Nat):List AV→Fr
 | []=>[]
 | a::r=>(n,a)::X9 (n+1) r
def ZbF (F:Tk→Res) (f:FuncId) (k:Nat) (ks:List It):Option (Fr×Zd)→Res
 | some (fr,h)=>F (.run f k ks fr h)
 | none=>none
def Zk7 (k:Nat) (fr:Fr) (i d:Nat) (h:Zd):Zd :=
 match get fr i with
 | .ptr l0 o=>match h[l0]? with
  | some (.cells cs)=>match cs[o+d]? with
   | some (.own l n)=>match h[l]? with
    | some (.rows _ rs _)=>if rs.length=n∧k≤l∧ZL rs=[]∧(Wj fr).contains l=false∧(ZP (h.set l0 (.cells (cs.set (o+d) (.rows rs))))).contains l=false then (h.set l .hole).set l0 (.cells (cs.set (o+d) (.rows rs))) else h
    | _=>h
   | _=>h
  | _=>h
 | _=>h
def Zct (fr:Fr) (h:Zd) (i d:Nat):Option (Nat×Nat) :=
 match get fr i with
 | .ptr l0 o=>match h[l0]? with
  | some (.cells cs)=>match cs[o+d]? with
   | some (.own l n)=>some (l,n)
   | _=>none
  | _=>none
 | _=>none
def Zj1 (k:Nat) (fr:Fr) (h:Zd) (j c:Nat):Option (Nat×Nat)→Zd
 | some (l,n)=>if j < n then (match h[l]? with
  | some (.rows z rs wr)=>match rs[n - 1 - j]? with
   | some row=>match row[c]? with
    | some (.own l' n')=>match h[l']? with
     | some (.rows _ ts _)=>if ts.length=n'∧k≤l'∧ZL ts=[]∧(Wj fr).contains l'=false∧(ZP (h.set l (.rows z (rs.set (n - 1 - j) (row.set c (.rows ts))) wr))).contains l'=false then (h.set l' .hole).set l (.rows z (rs.set (n - 1 - j) (row.set c (.rows ts))) wr) else h
     | _=>h
    | some .nils=>h.set l (.rows z (rs.set (n - 1 - j) (row.set c (.rows []))) wr)
    | _=>h
   | none=>h
  | _=>h) else h
 | none=>h
def ZkO (h:Zd) (c z:Nat) (q:Bool):Option (Nat×Nat)→Zd
 | some (l,n)=>match h[l]? with
  | some (.rows y rs wr)=>match rs[n - 1]? with
   | some row=>match row[c]? with
    | some .nils=>(h++[Blk.rows z [] q]).set l (.rows y (rs.set (n - 1) (row.set c (.own h.length 0))) wr)
    | _=>h
   | none=>h
  | _=>h
 | none=>h
def Zpj (σ:Nat→Nat):Fr→Fr
 | []=>[]
 | (i,v)::r=>(i,ren σ v)::Zpj σ r
def ZkR (fr:Fr) (h:Zd) (ls:List Nat):Fr×Zd:=match sub h (YX ls) ls with
 | some hs=>if Z6 ls.length (ZP hs)=true∧Z6 ls.length ((Wj fr).map (YX ls))=true then (Zpj (YX ls) fr,hs) else (fr,h)
 | none=>(fr,h)
def tidy (k:Nat) (fr:Fr) (h:Zd):Fr×Zd:=ZkR fr h (YO h 1000 (ZP (h.take k)++Wj fr) (List.range k))
def isF:AV→Bool
 | .bool b=>!b
 | _=>false
def ZrC (h:Zd) (c:Nat):Option (Nat×Nat)→Bool
 | some (l,n)=>match h[l]? with
  | some (.rows _ rs _)=>match rs[n - 1]? with
   | some row=>match row[c]? with
    | some .nils=>true
    | _=>false
   | none=>false
  | _=>false
 | none=>false
def isT:AV→Bool
 | .bool b=>b
 | _=>false
def ZlM (k:Nat) (fr:Fr) (h:Zd) (i c:Nat):Zd :=
 match get fr i with
 | .optr l n p o=>Zj1 k fr h (n - 1 - p) (o+c) (some (l,n))
 | _=>h
def QR (k:Nat):List Pop→Fr→Zd→Fr×Zd
 | [],fr,h=>(fr,h)
 | .cell i d::r,fr,h=>QR k r fr (Zk7 k fr i d h)
 | .row i d j c::r,fr,h=>QR k r fr (Zj1 k fr h j c (Zct fr h i d))
 | .new i d c z q::r,fr,h=>QR k r fr (ZkO h c z q (Zct fr h i d))
 | .tidy::r,fr,h=>QR k r (tidy k fr h).1 (tidy k fr h).2
 | .whenF i::r,fr,h=>if isF (get fr i)=true then QR k r fr h else (fr,h)
 | .whenN i d c::r,fr,h=>if ZrC h c (Zct fr h i d)=true then QR k r fr h else (fr,h)
 | .whenT i::r,fr,h=>if isT (get fr i)=true then QR k r fr h else (fr,h)
 | .opt i c::r,fr,h=>QR k r fr (ZlM k fr h i c)
 | .keep l::r,fr,h=>QR k r (restr fr l) h
def Jk (F:Tk→Res) (f:FuncId) (k:Nat) (ks:List It) (n:Nat) (fr:Fr) (h:Zd):Option (List Nat)→Res
 | none=>F (.run f k ks fr h)
 | some l=>if decide (k≤n)&&(Z6 n (Wj (restr fr l))&&Z6 n (ZP (h.take n))) then F (.run f k ks (restr fr l) (h.take n)) else F (.run f k ks (restr fr l) h)
def Za3 (id:Nat) (ks:List It):List (Nat×List Nat×List Pop)→List It
 | []=>ks
 | (j,l,c)::r=>if j=id then .pst l c::ks else Za3 id ks r
def ZgE (F:Tk→Res) (f:FuncId) (k:Nat) (fr:Fr) (h:Zd) (out:Option (List Nat)):Option (Nat×List It)→Res
 | some (n,ks)=>Jk F f k ks n fr h out
 | none=>none
def Zc5 (F:Tk→Res) (f:FuncId) (k:Nat) (ks:List It) (c:Code) (live:List Nat×List Nat) (n:Nat):Option (Fr×Zd)→Res
 | some (fr,h)=>if decide (k≤n)&&(Z6 n (Wj fr)&&Z6 n (ZP (h.take n))) then F (.run f k (.code c::.lp c (some live) n::ks) fr (h.take n)) else F (.run f k (.code c::.lp c (some live) n::ks) fr h)
 | none=>none
def JV (F:Tk→Res) (f:FuncId) (k:Nat) (ks:List It) (c:Code) (live:List Nat×List Nat) (n:Nat) (fr:Fr) (h:Zd):Res :=
 Zc5 F f k ks c live n (frz k live.1 live.2 (restr fr live.1) h)
def ZbM (F:Tk→Res) (f:FuncId) (k:Nat) (ks:List It) (id:Nat) (c:Code) (live:List Nat×List Nat):Option (Fr×Zd)→Res
 | some (fr,h)=>F (.run f k (.code c::.lp c (some live) h.length::.blk id h.length::ks) fr h)
 | none=>none
def Zbw (C:Cfg) (F:Tk→Res) (f:FuncId) (k:Nat) (ks:List It) (id:Nat) (fr:Fr) (h:Zd) (c:Code):Option (List Nat×List (Nat×Option Nat×Nat×Bool)×List Nat)→Res
 | some (live,os,fz)=>match c with
  | .loop b=>ZbM F f k ks id b (live,fz) (frz k live fz (restr (WN fr h os).1 live) (WN fr h os).2)
  | c=>F (.run f k (.code c::.blk id h.length::ks) fr h)
 | none=>F (.run f k (.code c::.blk id h.length::ks) fr h)
def ZaZ (F:Tk→Res) (f:FuncId) (k:Nat) (ks:List It) (a b:Code) (fr:Fr) (h:Zd) (v:AV):Res :=
 match v with
 | .bool t=>if t=true then F (.run f k (.code a::ks) fr h) else F (.run f k (.code b::ks) fr h)
 | _=>none
def Wz (fr:Fr) (h:Zd):List (Nat×Nat×TypeId)→Zd
 | []=>h
 | (i,d,t)::r=>match get fr i with
  | .tptr _ l o=>match h[l]? with
   | some (.cells cs)=>match cs[o+d]? with
    | some .nils=>Wz fr ((h++[Blk.rows 1 [] false]).set l (.cells (cs.set (o+d) (.town t h.length 0)))) r
    | _=>Wz fr h r
   | _=>Wz fr h r
  | _=>Wz fr h r
def enter (F:Tk→Res) (f:FuncId) (args:List AV) (h:Zd) (os:List (Nat×Nat×TypeId)):Option Func→Res
 | some fn=>match fn.body with
  | some c=>F (.run f (Wz (X9 0 args) h os).length [.code c] (X9 0 args) (Wz (X9 0 args) h os))
  | none=>none
 | none=>none
def JY (C:Cfg) (F:Tk→Res) (f:FuncId) (id:Nat) (ops:List Oper) (draw:Bool) (fr:Fr) (h:Zd):Option (Fr×Zd) :=
 match draw with
 | false=>Qw C F ops ops fr h
 | true=>ZdP (C.dyn f id) (Xm C F (C.dyn f id) (ZhN h.length ops) ops 0 ops fr (h++List.replicate (QP ops) .hole))
def Y0 (C:Cfg) (F:Tk→Res):Tk→Res
 | .call f args h=>match C.prim f args with
  | some v=>(match h with
   | []=>some (v,[])
   | _=>none)
  | none=>match C.primH f args h with
   | some r=>some r
   | none=>if C.good f then enter F f args h (C.ownA f) C.P.funcs[f]? else none
 | .run f k [] fr h=>ZcB C f k fr h
 | .run f k (.blk id n::ks) fr h=>Jk F f k ks n fr h (C.out f id)
 | .run f k (.pst l c::ks) fr h=>F (.run f k ks (QR k c (restr fr l) h).1 (QR k c (restr fr l) h).2)
 | .run f k (.lp c none n::ks) fr h=>F (.run f k (.code c::.lp c none n::ks) fr h)
 | .run f k (.lp c (some live) n::ks) fr h=>JV F f k ks c live n fr h
 | .run f k (.code c::ks) fr h=>match c with
  | .skip=>F (.run f k ks fr h)
  | .seq a b=>F (.run f k (.code a::.code b::ks) fr h)
  | .region id ops draw=>ZbF F f k (Za3 id ks (C.post f)) (JY C F f id ops.toList draw fr h)
  | .cond c a b=>ZaZ F f k ks a b fr h (ev fr c)
  | .block id c=>Zbw C F f k ks id fr h c (C.live f id)
  | .loop c=>F (.run f k (.code c::.lp c none 0::ks) fr h)
  | .exit id=>ZgE F f k fr h (C.out f id) (unwind id ks)
  | .ret=>ZcB C f k fr h
  | _=>none
def runN (C:Cfg):Nat→Tk→Res
 | 0,_=>none
 | n+1,t=>Y0 C (runN C n) t
section
variable {Bs:World→Prop}
def Blk.open_:Blk→Nat→Prop
 | .cells _,_=>True
 | .rows z rs wr,o=>wr=true∨z*rs.length≤o
 | .hole,_=>False
 | .map _,_=>True
structure Mp (Bs:World→Prop) where
 map:Nat→Option Nat
 out:Nat→Nat→Prop
 still:Nat→Prop
instance:CoeFun (Mp Bs) (fun _=>Nat→Option Nat):=⟨fun μ=>μ.map⟩
def Mut (μ:Mp Bs) (h:Zd) (b o:Nat):Prop:=μ.out b o∨∃ l k,h[l]? = some k∧μ l=some b∧k.open_ o
mutual
/-- A value that hangs on memory which nothing writes. -/
def PRep (M:Nat→Nat→Prop) (w:World):AV→Value→Prop
 | .int k n,v=>v=.int k n
 | .bool b,v=>v=.bool b
 | .str s,v=>v=.string ⟨s.toArray⟩
 | .nilp,v=>v=.pointer none
 | .nilf,v=>v=.nilFunc
 | .nili,v=>v=.nilIface
 | .emp b,v=>∃ base cap,v=.slice base 0 cap∧base.isNone=b
 | .nilm,v=>v=.map none
 | .nils,v=>v=.slice none 0 0
 | .rows rs,v=>∃ base cap,v=.slice base rs.length cap∧rs.length≤cap∧(rs=[]∨∃ b o z,base=some ⟨b,o,none⟩∧PRows M w z b rs o)
 | .lit rs,v=>∃ base,v=.slice base rs.length rs.length∧(rs=[]∨∃ b o z,base=some ⟨b,o,none⟩∧PRows M w z b rs o)
 | .rptr row o,v=>∃ b p,v=.pointer (some ⟨b,p+o,none⟩)∧PMem M w b row p
 | .agg cs,v=>∃ vs:List Value,v=.agg vs.toArray∧PRepL M w cs vs
 | .tup cs,v=>∃ vs:List Value,v=.tuple vs.toArray∧PRepL M w cs vs
 | .fn f cs,v=>∃ vs:List Value,v=.func (.func f) #[] vs.toArray∧PRepL M w cs vs
 | .bnd f cs,v=>∃ vs:List Value,v=.func (.func f) vs.toArray #[]∧PRepL M w cs vs
 | .iface t a,v=>∃ x,v=.iface t x∧PRep M w a x
 | .ptr _ _,_=>False
 | .own _ _,_=>False
 | .optr _ _ _ _,_=>False
 | .mp _,_=>False
 | .tptr _ _ _,_=>False
 | .town _ _ _,_=>False
 | .any,_=>True
def PRepL (M:Nat→Nat→Prop) (w:World):List AV→List Value→Prop
 | [],vs=>vs=[]
 | a::r,vs=>∃ v vr,vs=v::vr∧PRep M w a v∧PRepL M w r vr
def PMem (M:Nat→Nat→Prop) (w:World) (b:Nat):List AV→Nat→Prop
 | [],_=>True
 | a::r,o=>(∃ v,w.cell? ⟨b,o,none⟩=some v∧¬M b o∧PRep M w a v)∧PMem M w b r (o+1)
def PRows (M:Nat→Nat→Prop) (w:World) (z b:Nat):List (List AV)→Nat→Prop
 | [],_=>True
 | row::r,o=>row.length=z∧Zl row=true∧PMem M w b row o∧PRows M w z b r (o+z)
end
def Zaw (M:Nat→Nat→Prop) (w:World) (M':Nat→Nat→Prop) (w':World):Prop :=
 ∀ b o v,w.cell? ⟨b,o,none⟩=some v→¬M b o→w'.cell? ⟨b,o,none⟩=some v∧¬M' b o
end
section
variable {Bs:World→Prop}
variable {M M':Nat→Nat→Prop} {w w':World}
mutual
theorem PRep.keep (hk:Zaw M w M' w'):∀ (a:AV) (v:Value),PRep M w a v→PRep M' w' a v
 | .int _ _,_,h=>h
 | .bool _,_,h=>h
 | .str _,_,h=>h
 | .nilp,_,h=>h
 | .nilf,_,h=>h
 | .nili,_,h=>h
 | .emp _,_,h=>h
 | .nilm,_,h=>h
 | .nils,_,h=>h
 | .rows rs,_,h=>by
  obtain ⟨base,cap,hv,hc,h⟩:=h
  refine ⟨base,cap,hv,hc,?_⟩
  rcases h with h | ⟨b,o,z,hb,h⟩
  ·exact .inl h
  ·exact .inr ⟨b,o,z,hb,PRows.keep hk z b rs o h⟩
 | .lit rs,_,h=>by
  obtain ⟨base,hv,h⟩:=h
  refine ⟨base,hv,?_⟩
  rcases h with h | ⟨b,o,z,hb,h⟩
  ·exact .inl h
  ·exact .inr ⟨b,o,z,hb,PRows.keep hk z b rs o h⟩
 | .rptr row _,_,h=>by
  obtain ⟨b,p,hv,h⟩:=h
  exact ⟨b,p,hv,PMem.keep hk b row p h⟩
 | .agg cs,_,h=>by
  obtain ⟨vs,hv,h⟩:=h
  exact ⟨vs,hv,PRepL.keep hk cs vs h⟩
 | .tup cs,_,h=>by
  obtain ⟨vs,hv,h⟩:=h
  exact ⟨vs,hv,PRepL.keep hk cs vs h⟩
 | .fn _ cs,_,h=>by
  obtain ⟨vs,hv,h⟩:=h
  exact ⟨vs,hv,PRepL.keep hk cs vs h⟩
 | .bnd _ cs,_,h=>by
  obtain ⟨vs,hv,h⟩:=h
  exact ⟨vs,hv,PRepL.keep hk cs vs h⟩
 | .iface _ a,_,h=>by
  obtain ⟨x,hv,h⟩:=h
  exact ⟨x,hv,PRep.keep hk a x h⟩
 | .ptr _ _,_,h=>h
 | .own _ _,_,h=>h
 | .optr _ _ _ _,_,h=>h
 | .mp _,_,h=>h
 | .tptr _ _ _,_,h=>h
 | .town _ _ _,_,h=>h
 | .any,_,h=>h
theorem PRepL.keep (hk:Zaw M w M' w'):∀ (as_:List AV) (vs:List Value),PRepL M w as_ vs→PRepL M' w' as_ vs
 | [],_,h=>h
 | a::r,_,h=>by
  obtain ⟨v,vr,hv,h1,h2⟩:=h
  exact ⟨v,vr,hv,PRep.keep hk a v h1,PRepL.keep hk r vr h2⟩
theorem PMem.keep (hk:Zaw M w M' w') (b:Nat):∀ (row:List AV) (o:Nat),PMem M w b row o→PMem M' w' b row o
 | [],_,h=>h
 | a::r,o,h=>by
  obtain ⟨⟨v,hc,hm,h1⟩,h2⟩:=h
  obtain ⟨hc',hm'⟩:=hk b o v hc hm
  exact ⟨⟨v,hc',hm',PRep.keep hk a v h1⟩,PMem.keep hk b r (o+1) h2⟩
theorem PRows.keep (hk:Zaw M w M' w') (z b:Nat):∀ (rs:List (List AV)) (o:Nat),PRows M w z b rs o→PRows M' w' z b rs o
 | [],_,h=>h
 | row::r,o,h=>by
  obtain ⟨h0,hs,h1,h2⟩:=h
  exact ⟨h0,hs,PMem.keep hk b row o h1,PRows.keep hk z b r (o+z) h2⟩
end
end
section
variable {Bs:World→Prop}
def SomeRow (w:World) (b:Nat) (vs:Array Value) (T:TypeId):Prop:=∃ fz,w.heap[b]? = some (.cells vs T fz)
def RowAt (w:World) (b:Nat) (vs:Array Value) (T:TypeId) (wr:Bool) (m:Nat):Prop:=∃ fz:Nat×Nat,w.heap[b]? = some (.cells vs T fz)∧(fz=(0,0)∨(wr=false∧fz.2≤m))
theorem SomeRow.eq {w w':World} {b:Nat} {vs:Array Value} {T:TypeId} (h:SomeRow w b vs T) (e:w'.heap[b]? = w.heap[b]?):SomeRow w' b vs T:=by
 obtain ⟨fz,h⟩:=h
 exact ⟨fz,e.trans h⟩
theorem RowAt.eq {w w':World} {b:Nat} {vs:Array Value} {T:TypeId} {wr:Bool} {m:Nat} (h:RowAt w b vs T wr m) (e:w'.heap[b]? = w.heap[b]?):RowAt w' b vs T wr m:=by
 obtain ⟨fz,h,hf⟩:=h
 exact ⟨fz,e.trans h,hf⟩
theorem SomeRow.lt {w:World} {b:Nat} {vs:Array Value} {T:TypeId} (h:SomeRow w b vs T):b < w.heap.size:=by
 obtain ⟨fz,h⟩:=h
 exact (Array.getElem?_eq_some_iff.1 h).1
theorem RowAt.lt {w:World} {b:Nat} {vs:Array Value} {T:TypeId} {wr:Bool} {m:Nat} (h:RowAt w b vs T wr m):b < w.heap.size:=by
 obtain ⟨fz,h,_⟩:=h
 exact (Array.getElem?_eq_some_iff.1 h).1
theorem RowAt.free {w:World} {b:Nat} {vs:Array Value} {T:TypeId} {wr:Bool} {m:Nat} (h:w.heap[b]? = some (.cells vs T (0,0))):RowAt w b vs T wr m:=⟨_,h,.inl rfl⟩
def OwnRep (μ:Mp Bs) (h:Zd) (w:World) (l n:Nat) (v:Value):Prop :=
 ∃ z rs wr base cap,h[l]? = some (.rows z rs wr)∧n≤rs.length∧v=.slice base n cap∧(n=rs.length→n≤cap∧(n=0→cap=0) ∧
  (cap=0∨∃ b vs T,base=some ⟨b,0,none⟩∧μ l=some b∧SomeRow w b vs T∧cap*z≤vs.size))
def OptrRep (μ:Mp Bs) (h:Zd) (l n i o:Nat) (v:Value):Prop :=
 ∃ z rs wr b,h[l]? = some (.rows z rs wr)∧n≤rs.length∧v=.pointer (some ⟨b,i*z+o,none⟩)∧(n=rs.length→μ l=some b)
def MpRep (μ:Mp Bs) (h:Zd) (l:Nat) (v:Value):Prop :=
 ∃ es b,h[l]? = some (.map es)∧μ l=some b∧v=.map (some b)
def PtrRep (μ:Mp Bs) (h:Zd) (l o:Nat) (v:Value):Prop :=
 ∃ cs b,h[l]? = some (.cells cs)∧μ l=some b∧v=.pointer (some ⟨b,o,none⟩)
def TptrRep (μ:Mp Bs) (h:Zd) (w:World) (t l o:Nat) (v:Value):Prop :=
 ∃ cs b,h[l]? = some (.cells cs)∧μ l=some b∧v=.pointer (some ⟨b,o,none⟩)∧∃ vs,SomeRow w b vs t
def TownRep (μ:Mp Bs) (h:Zd) (w:World) (t l n:Nat) (v:Value):Prop :=
 ∃ z rs wr base cap,h[l]? = some (.rows z rs wr)∧n≤rs.length∧v=.slice base n cap∧(n=rs.length→n≤cap∧(n=0→cap=0) ∧
  ((base=none∧cap=0)∨∃ b vs,base=some ⟨b,0,none⟩∧μ l=some b∧SomeRow w b vs t∧cap*z≤vs.size))
theorem TownRep.own {μ:Mp Bs} {h:Zd} {w:World} {t l n:Nat} {v:Value} (r:TownRep μ h w t l n v):OwnRep μ h w l n v:=by
 obtain ⟨z,rs,wr,base,cap,hl,hn,hs,hv⟩:=r
 refine ⟨z,rs,wr,base,cap,hl,hn,hs,fun e=>?_⟩
 obtain ⟨h1,h2,h3⟩:=hv e
 exact ⟨h1,h2,h3.imp (fun q=>q.2) fun ⟨b,vs,q⟩=>⟨b,vs,t,q⟩⟩
mutual
def Rep (μ:Mp Bs) (h:Zd) (w:World):AV→Value→Prop
 | .agg cs,v=>∃ vs:List Value,v=.agg vs.toArray∧RepL μ h w cs vs
 | .tup cs,v=>∃ vs:List Value,v=.tuple vs.toArray∧RepL μ h w cs vs
 | .fn f cs,v=>∃ vs:List Value,v=.func (.func f) #[] vs.toArray∧RepL μ h w cs vs
 | .bnd f cs,v=>∃ vs:List Value,v=.func (.func f) vs.toArray #[]∧RepL μ h w cs vs
 | .iface t a,v=>∃ x,v=.iface t x∧Rep μ h w a x
 | .ptr l o,v=>PtrRep μ h l o v
 | .own l n,v=>OwnRep μ h w l n v
 | .optr l n i o,v=>OptrRep μ h l n i o v
 | .mp l,v=>MpRep μ h l v
 | .tptr t l o,v=>TptrRep μ h w t l o v
 | .town t l n,v=>TownRep μ h w t l n v
 | a,v=>PRep (Mut μ h) w a v
def RepL (μ:Mp Bs) (h:Zd) (w:World):List AV→List Value→Prop
 | [],vs=>vs=[]
 | a::r,vs=>∃ v vr,vs=v::vr∧Rep μ h w a v∧RepL μ h w r vr
end
structure Ext (μ:Mp Bs) (h:Zd) (w:World) (μ':Mp Bs) (h':Zd) (w':World):Prop where
 out:μ'.out=μ.out
 still:μ'.still=μ.still
 os:w'.os=w.os
 tape:w'.tape=w.tape
 output:w'.output=w.output
 size:w.heap.size≤w'.heap.size
 len:h.length≤h'.length
 keep:Zaw (Mut μ h) w (Mut μ' h') w'
 outside:∀ b,b < w.heap.size→(∀ l,l < h.length→μ l≠some b)→w'.heap[b]? = w.heap[b]? ∧ (∀ l,l < h'.length→μ' l≠some b)
 cells:∀ l cs,h[l]? = some (.cells cs)→(∃ cs',h'[l]? = some (.cells cs'))∧μ' l=μ l
 rows:∀ l z rs wr,h[l]? = some (.rows z rs wr)→∃ rs' wr',h'[l]? = some (.rows z rs' wr')∧rs.length≤rs'.length∧(rs'.length=rs.length→μ' l=μ l)
 maps:∀ l es,h[l]? = some (.map es)→(∃ es',h'[l]? = some (.map es'))∧μ' l=μ l
 sizes:∀ (b:Nat) (vs:Array Value) (T:TypeId),SomeRow w b vs T→∃ vs':Array Value,SomeRow w' b vs' T∧vs'.size=vs.size
end
section
variable {Bs:World→Prop}
variable {μ μ' μ'':Mp Bs} {h h' h'':Zd} {w w' w'':World}
theorem Ext.refl (μ:Mp Bs) (h:Zd) (w:World):Ext μ h w μ h w where
 out:=rfl
 still:=rfl
 os:=rfl
 tape:=rfl
 output:=rfl
 size:=Nat.le_refl _
 len:=Nat.le_refl _
 keep:=fun _ _ _ hc hm=>⟨hc,hm⟩
 outside:=fun _ _ ho=>⟨rfl,ho⟩
 cells:=fun _ cs hl=>⟨⟨cs,hl⟩,rfl⟩
 rows:=fun _ _ rs wr hl=>⟨rs,wr,hl,Nat.le_refl _,fun _=>rfl⟩
 maps:=fun _ es hl=>⟨⟨es,hl⟩,rfl⟩
 sizes:=fun _ vs _ hb=>⟨vs,hb,rfl⟩
theorem Ext.trans (a:Ext μ h w μ' h' w') (b:Ext μ' h' w' μ'' h'' w''):Ext μ h w μ'' h'' w'' where
 out:=b.out.trans a.out
 still:=b.still.trans a.still
 os:=b.os.trans a.os
 tape:=b.tape.trans a.tape
 output:=b.output.trans a.output
 size:=Nat.le_trans a.size b.size
 len:=Nat.le_trans a.len b.len
 keep:=fun x o v hc hm=>by
  obtain ⟨h1,h2⟩:=a.keep x o v hc hm
  exact b.keep x o v h1 h2
 outside:=fun x hx ho=>by
  obtain ⟨h1,h2⟩:=a.outside x hx ho
  obtain ⟨h3,h4⟩:=b.outside x (Nat.lt_of_lt_of_le hx a.size) h2
  exact ⟨h3.trans h1,h4⟩
 cells:=fun l cs hl=>by
  obtain ⟨⟨cs',h1⟩,h2⟩:=a.cells l cs hl
  obtain ⟨h3,h4⟩:=b.cells l cs' h1
  exact ⟨h3,h4.trans h2⟩
 maps:=fun l es hl=>by
  obtain ⟨⟨es',h1⟩,h2⟩:=a.maps l es hl
  obtain ⟨h3,h4⟩:=b.maps l es' h1
  exact ⟨h3,h4.trans h2⟩
 rows:=fun l z rs wr hl=>by
  obtain ⟨rs',wr',h1,h2,h3⟩:=a.rows l z rs wr hl
  obtain ⟨rs'',wr'',h4,h5,h6⟩:=b.rows l z rs' wr' h1
  refine ⟨rs'',wr'',h4,Nat.le_trans h2 h5,fun e=>?_⟩
  have e1:rs'.length=rs.length:=by omega
  have e2:rs''.length=rs'.length:=by omega
  exact (h6 e2).trans (h3 e1)
 sizes:=fun x vs T hb=>by
  obtain ⟨vs',h1,h2⟩:=a.sizes x vs T hb
  obtain ⟨vs'',h3,h4⟩:=b.sizes x vs' T h1
  exact ⟨vs'',h3,h4.trans h2⟩
theorem OwnRep.ext (e:Ext μ h w μ' h' w') {l n:Nat} {v:Value} (r:OwnRep μ h w l n v):OwnRep μ' h' w' l n v:=by
 obtain ⟨z,rs,wr,base,cap,hl,hn,hs,hv⟩:=r
 obtain ⟨rs',wr',hl',hle,hμ⟩:=e.rows l z rs wr hl
 refine ⟨z,rs',wr',base,cap,hl',by omega,hs,fun hn'=>?_⟩
 have e1:rs'.length=rs.length:=by omega
 obtain ⟨h2,h3,h4⟩:=hv (by omega)
 refine ⟨h2,h3,?_⟩
 rcases h4 with h4 | ⟨b,vs,T,hb,hm,hw,hz⟩
 ·exact .inl h4
 ·obtain ⟨vs',hw',hs⟩:=e.sizes b vs T hw
  exact .inr ⟨b,vs',T,hb,(hμ e1).trans hm,hw',by omega⟩
theorem TptrRep.ext (e:Ext μ h w μ' h' w') {t l o:Nat} {v:Value} (r:TptrRep μ h w t l o v):TptrRep μ' h' w' t l o v:=by
 obtain ⟨cs,b,hl,hm,hv,vs,hs⟩:=r
 obtain ⟨⟨cs',hl'⟩,hμ⟩:=e.cells l cs hl
 obtain ⟨vs',hs',_⟩:=e.sizes b vs t hs
 exact ⟨cs',b,hl',hμ.trans hm,hv,vs',hs'⟩
theorem TownRep.ext (e:Ext μ h w μ' h' w') {t l n:Nat} {v:Value} (r:TownRep μ h w t l n v):TownRep μ' h' w' t l n v:=by
 obtain ⟨z,rs,wr,base,cap,hl,hn,hs,hv⟩:=r
 obtain ⟨rs',wr',hl',hle,hμ⟩:=e.rows l z rs wr hl
 refine ⟨z,rs',wr',base,cap,hl',by omega,hs,fun hn'=>?_⟩
 have e1:rs'.length=rs.length:=by omega
 obtain ⟨h2,h3,h4⟩:=hv (by omega)
 refine ⟨h2,h3,?_⟩
 rcases h4 with h4 | ⟨b,vs,hb,hm,hw,hz⟩
 ·exact .inl h4
 ·obtain ⟨vs',hw',hs⟩:=e.sizes b vs t hw
  exact .inr ⟨b,vs',hb,(hμ e1).trans hm,hw',by omega⟩
theorem OptrRep.ext (e:Ext μ h w μ' h' w') {l n i o:Nat} {v:Value} (r:OptrRep μ h l n i o v):OptrRep μ' h' l n i o v:=by
 obtain ⟨z,rs,wr,b,hl,hn,hs,hv⟩:=r
 obtain ⟨rs',wr',hl',hle,hμ⟩:=e.rows l z rs wr hl
 exact ⟨z,rs',wr',b,hl',by omega,hs,fun hn'=>(hμ (by omega)).trans (hv (by omega))⟩
theorem MpRep.ext (e:Ext μ h w μ' h' w') {l:Nat} {v:Value} (r:MpRep μ h l v):MpRep μ' h' l v:=by
 obtain ⟨es,b,hl,hm,hv⟩:=r
 obtain ⟨⟨es',hl'⟩,hμ⟩:=e.maps l es hl
 exact ⟨es',b,hl',hμ.trans hm,hv⟩
theorem PtrRep.ext (e:Ext μ h w μ' h' w') {l o:Nat} {v:Value} (r:PtrRep μ h l o v):PtrRep μ' h' l o v:=by
 obtain ⟨cs,b,hl,hm,hv⟩:=r
 obtain ⟨⟨cs',hl'⟩,hμ⟩:=e.cells l cs hl
 exact ⟨cs',b,hl',hμ.trans hm,hv⟩
mutual
theorem Rep.ext (e:Ext μ h w μ' h' w'):∀ (a:AV) (v:Value),Rep μ h w a v→Rep μ' h' w' a v
 | .agg cs,_,r=>by
  obtain ⟨vs,hv,r⟩:=r
  exact ⟨vs,hv,RepL.ext e cs vs r⟩
 | .tup cs,_,r=>by
  obtain ⟨vs,hv,r⟩:=r
  exact ⟨vs,hv,RepL.ext e cs vs r⟩
 | .fn _ cs,_,r=>by
  obtain ⟨vs,hv,r⟩:=r
  exact ⟨vs,hv,RepL.ext e cs vs r⟩
 | .bnd _ cs,_,r=>by
  obtain ⟨vs,hv,r⟩:=r
  exact ⟨vs,hv,RepL.ext e cs vs r⟩
 | .iface _ a,_,r=>by
  obtain ⟨x,hv,r⟩:=r
  exact ⟨x,hv,Rep.ext e a x r⟩
 | .ptr _ _,_,r=>PtrRep.ext e r
 | .own _ _,_,r=>OwnRep.ext e r
 | .optr _ _ _ _,_,r=>OptrRep.ext e r
 | .mp _,_,r=>MpRep.ext e r
 | .tptr _ _ _,_,r=>TptrRep.ext e r
 | .town _ _ _,_,r=>TownRep.ext e r
 | .int _ _,_,r=>r
 | .bool _,_,r=>r
 | .str _,_,r=>r
 | .nilp,_,r=>r
 | .nilf,_,r=>r
 | .nili,_,r=>r
 | .emp _,_,r=>r
 | .nilm,_,r=>r
 | .nils,_,r=>r
 | .rows rs,v,r=>PRep.keep e.keep (.rows rs) v r
 | .lit rs,v,r=>PRep.keep e.keep (.lit rs) v r
 | .rptr row o,v,r=>PRep.keep e.keep (.rptr row o) v r
 | .any,_,r=>r
theorem RepL.ext (e:Ext μ h w μ' h' w'):∀ (as_:List AV) (vs:List Value),RepL μ h w as_ vs→RepL μ' h' w' as_ vs
 | [],_,r=>r
 | a::r,_,x=>by
  obtain ⟨v,vr,hv,h1,h2⟩:=x
  exact ⟨v,vr,hv,Rep.ext e a v h1,RepL.ext e r vr h2⟩
end
mutual
theorem Rep.pure:∀ (a:AV) (v:Value),PRep (Mut μ h) w a v→Rep μ h w a v
 | .agg cs,_,r=>by
  obtain ⟨vs,hv,r⟩:=r
  exact ⟨vs,hv,RepL.pure cs vs r⟩
 | .tup cs,_,r=>by
  obtain ⟨vs,hv,r⟩:=r
  exact ⟨vs,hv,RepL.pure cs vs r⟩
 | .fn _ cs,_,r=>by
  obtain ⟨vs,hv,r⟩:=r
  exact ⟨vs,hv,RepL.pure cs vs r⟩
 | .bnd _ cs,_,r=>by
  obtain ⟨vs,hv,r⟩:=r
  exact ⟨vs,hv,RepL.pure cs vs r⟩
 | .iface _ a,_,r=>by
  obtain ⟨x,hv,r⟩:=r
  exact ⟨x,hv,Rep.pure a x r⟩
 | .ptr _ _,_,r=>r.elim
 | .own _ _,_,r=>r.elim
 | .optr _ _ _ _,_,r=>r.elim
 | .mp _,_,r=>r.elim
 | .tptr _ _ _,_,r=>r.elim
 | .town _ _ _,_,r=>r.elim
 | .int _ _,_,r=>r
 | .bool _,_,r=>r
 | .str _,_,r=>r
 | .nilp,_,r=>r
 | .nilf,_,r=>r
 | .nili,_,r=>r
 | .emp _,_,r=>r
 | .nilm,_,r=>r
 | .nils,_,r=>r
 | .rows _,_,r=>r
 | .lit _,_,r=>r
 | .rptr _ _,_,r=>r
 | .any,_,r=>r
theorem RepL.pure:∀ (as_:List AV) (vs:List Value),PRepL (Mut μ h) w as_ vs→RepL μ h w as_ vs
 | [],_,r=>r
 | a::r,_,x=>by
  obtain ⟨v,vr,hv,h1,h2⟩:=x
  exact ⟨v,vr,hv,Rep.pure a v h1,RepL.pure r vr h2⟩
end
def RowsIn (M:Nat→Nat→Prop) (w:World) (z:Nat) (rs:List (List AV)) (vs:Array Value):Prop :=
 ∀ i row,rs[i]? = some row→row.length=z∧Zl row=true∧∀ c a,row[c]? = some a→∃ v,vs[i*z+c]? = some v∧PRep M w a v
def RowsN (μ:Mp Bs) (h:Zd) (w:World) (z:Nat) (rs:List (List AV)) (vs:Array Value):Prop :=
 ∀ i row,rs[i]? = some row→row.length=z∧Zl row=true∧∀ c a,row[c]? = some a→∃ v,vs[i*z+c]? = some v∧Rep μ h w a v
mutual
theorem Rep.none:∀ (a:AV) (v:Value),Zm a=[]→Rep μ h w a v→PRep (Mut μ h) w a v
 | .agg cs,_,hl,r=>by
  obtain ⟨vs,hv,r⟩:=r
  exact ⟨vs,hv,RepL.none cs vs hl r⟩
 | .tup cs,_,hl,r=>by
  obtain ⟨vs,hv,r⟩:=r
  exact ⟨vs,hv,RepL.none cs vs hl r⟩
 | .fn _ cs,_,hl,r=>by
  obtain ⟨vs,hv,r⟩:=r
  exact ⟨vs,hv,RepL.none cs vs hl r⟩
 | .bnd _ cs,_,hl,r=>by
  obtain ⟨vs,hv,r⟩:=r
  exact ⟨vs,hv,RepL.none cs vs hl r⟩
 | .iface _ a,_,hl,r=>by
  obtain ⟨x,hv,r⟩:=r
  exact ⟨x,hv,Rep.none a x hl r⟩
 | .ptr _ _,_,hl,_=>by simp [Zm] at hl
 | .own _ _,_,hl,_=>by simp [Zm] at hl
 | .optr _ _ _ _,_,hl,_=>by simp [Zm] at hl
 | .mp _,_,hl,_=>by simp [Zm] at hl
 | .tptr _ _ _,_,hl,_=>by simp [Zm] at hl
 | .town _ _ _,_,hl,_=>by simp [Zm] at hl
 | .int _ _,_,_,r=>r
 | .bool _,_,_,r=>r
 | .str _,_,_,r=>r
 | .nilp,_,_,r=>r
 | .nilf,_,_,r=>r
 | .nili,_,_,r=>r
 | .emp _,_,_,r=>r
 | .nilm,_,_,r=>r
 | .nils,_,_,r=>r
 | .rows _,_,_,r=>r
 | .lit _,_,_,r=>r
 | .rptr _ _,_,_,r=>r
 | .any,_,_,r=>r
theorem RepL.none:∀ (as_:List AV) (vs:List Value),Zk as_=[]→RepL μ h w as_ vs→PRepL (Mut μ h) w as_ vs
 | [],_,_,r=>r
 | a::r,_,hl,x=>by
  obtain ⟨v,vr,hv,h1,h2⟩:=x
  have hl:=List.append_eq_nil_iff.1 (show Zm a++Zk r=[] from hl)
  exact ⟨v,vr,hv,Rep.none a v hl.1 h1,RepL.none r vr hl.2 h2⟩
end
theorem JJ:∀ {l:List AV} {a:AV},Zk l=[]→a∈l→Zm a=[]
 | b::l,a,hl,ha=>by
  have hl:=List.append_eq_nil_iff.1 (show Zm b++Zk l=[] from hl)
  rcases List.mem_cons.1 ha with rfl | ha
  ·exact hl.1
  ·exact JJ hl.2 ha
theorem Zbs:∀ {rs:List (List AV)} {row:List AV},ZL rs=[]→row∈rs→Zk row=[]
 | b::l,a,hl,ha=>by
  have hl:=List.append_eq_nil_iff.1 (show Zk b++ZL l=[] from hl)
  rcases List.mem_cons.1 ha with rfl | ha
  ·exact hl.1
  ·exact Zbs hl.2 ha
theorem RowsN.none {z:Nat} {rs:List (List AV)} {vs:Array Value} (hl:ZL rs=[]) (r:RowsN μ h w z rs vs):RowsIn (Mut μ h) w z rs vs:=fun i row hrow=>by
 obtain ⟨h1,h2,h3⟩:=r i row hrow
 refine ⟨h1,h2,fun c a ha=>?_⟩
 obtain ⟨v,h4,h5⟩:=h3 c a ha
 exact ⟨v,h4,Rep.none a v (JJ (Zbs hl (List.mem_of_getElem? hrow)) (List.mem_of_getElem? ha)) h5⟩
theorem RowsIn.some {z:Nat} {rs:List (List AV)} {vs:Array Value} (r:RowsIn (Mut μ h) w z rs vs):RowsN μ h w z rs vs:=fun i row hrow=>by
 obtain ⟨h1,h2,h3⟩:=r i row hrow
 refine ⟨h1,h2,fun c a ha=>?_⟩
 obtain ⟨v,h4,h5⟩:=h3 c a ha
 exact ⟨v,h4,Rep.pure a v h5⟩
def EntRep (M:Nat→Nat→Prop) (w:World):List (AV×AV)→List MapEntry→Prop
 | [],ms=>ms=[]
 | (k,v)::r,ms=>∃ m mr,ms=m::mr∧PRep M w k m.key∧PRep M w v m.val∧EntRep M w r mr
theorem EntRep.keep {M M':Nat→Nat→Prop} (hk:Zaw M w M' w'):∀ (es:List (AV×AV)) (ms:List MapEntry),EntRep M w es ms→EntRep M' w' es ms
 | [],_,h=>h
 | (k,v)::r,_,h=>by
  obtain ⟨m,mr,he,h1,h2,h3⟩:=h
  exact ⟨m,mr,he,PRep.keep hk k _ h1,PRep.keep hk v _ h2,EntRep.keep hk r mr h3⟩
def Zq2 (es:List (AV×AV)):Prop:=(es.map (·.1)).Pairwise fun a b=>WW a b=true
def EntSet (M:Nat→Nat→Prop) (w:World) (es:List (AV×AV)) (ms:List MapEntry):Prop:=Zq2 es∧∃ ms':List MapEntry,ms'.Perm ms∧EntRep M w es ms'
theorem EntSet.keep {M M':Nat→Nat→Prop} (hk:Zaw M w M' w') (es:List (AV×AV)) (ms:List MapEntry) (h:EntSet M w es ms):EntSet M' w' es ms:=by
 obtain ⟨h1,ms',h2,h3⟩:=h
 exact ⟨h1,ms',h2,h3.keep hk⟩
theorem EntSet.empty {M:Nat→Nat→Prop}:EntSet M w [] []:=⟨List.Pairwise.nil,[],List.Perm.refl _,rfl⟩
def ZfF (μ:Mp Bs) (h:Zd) (w:World) (l:Nat):Blk→Prop
 | .cells cs=>∃ b vs T,μ l=some b∧w.heap[b]? = some (.cells (List.toArray vs) T (0,0))∧Zl cs=true∧RepL μ h w cs vs
 | .rows z rs wr=>(rs=[]∧μ l=none)∨∃ b vs T,μ l=some b∧RowAt w b vs T wr (rs.length*z)∧rs.length*z≤vs.size∧RowsN μ h w z rs vs
 | .hole=>μ l=none
 | .map es=>∃ b ms clock,μ l=some b∧w.heap[b]? = some (.map (List.toArray ms) clock)∧EntSet (Mut μ h) w es ms
structure Rel (μ:Mp Bs) (h:Zd) (w:World):Prop where
 inj:∀ l l' b,l < h.length→l' < h.length→μ l=some b→μ l'=some b→l=l'
 blk:∀ l k,h[l]? = some k→ZfF μ h w l k
 apart:∀ l b o,l < h.length→μ l=some b→¬μ.out b o
 old:∀ b o,μ.out b o→b < w.heap.size
 still:∀ b,μ.still b→b < w.heap.size∧∀ l,l < h.length→μ l≠some b
 base:∀ w',(∀ b,μ.still b→w'.heap[b]? = w.heap[b]?)→Bs w'
theorem Rel.carry (hr:Rel μ h w) (e:Ext μ h w μ' h' w'):(∀ b,μ'.still b→b < w'.heap.size∧∀ l,l < h'.length→μ' l≠some b)∧∀ w2:World,(∀ b,μ'.still b→w2.heap[b]? = w'.heap[b]?)→Bs w2:=by
 rw [e.still]
 refine ⟨fun b hb=>?_,fun w2 h2=>hr.base w2 fun b hb=>?_⟩
 ·obtain ⟨h1,h2⟩:=hr.still b hb
  exact ⟨Nat.lt_of_lt_of_le h1 e.size,(e.outside b h1 h2).2⟩
 ·obtain ⟨h1,h3⟩:=hr.still b hb
  rw [h2 b hb,(e.outside b h1 h3).1]
def FrRel (μ:Mp Bs) (h:Zd) (w:World) (fr:Fr) (tmps:Array Value):Prop:=∀ i,Rep μ h w (get fr i) (tmps.getD i undef)
end
section
variable {Bs:World→Prop}
variable {P:Program} {μ:Mp Bs} {h:Zd} {w:World}
theorem Wt (b o j:Nat):(⟨b,o,none⟩:Addr).add j=⟨b,o+j,none⟩:=by
 unfold Addr.add;split<;>simp_all
theorem ZlL {t:TypeId} {n:Nat} (e:sh P t=some (.agg n)):(isAgg t).run P w=.ok true w∧(sizeOf t).run P w=.ok n w:=by
 unfold sh at e
 split at e
 ·rename_i fs i hu hi
  simp only [Option.some.injEq,Sh.agg.injEq] at e
  simp [isAgg,sizeOf,typeInfo,underlying,hu,hi,e]
 ·rename_i n' e' i hu hi
  simp only [Option.some.injEq,Sh.agg.injEq] at e
  simp [isAgg,sizeOf,typeInfo,underlying,hu,hi,e]
 ·simp at e
 ·simp at e
theorem Zpr {t:TypeId} (e:sh P t=some .one):(isAgg t).run P w=.ok false w:=by
 unfold sh at e
 split at e
 ·simp at e
 ·simp at e
 ·rename_i d i h1 h2 hu hi
  cases d<;>simp_all [isAgg,underlying]
 ·simp at e
def J6 (μ:Mp Bs) (h:Zd) (w:World) (f:Nat→Option Value) (cs:List AV):Prop :=
 ∀ i a,cs[i]? = some a→∃ v,f i=some v∧Rep μ h w a v
theorem RepL.at:∀ (cs:List AV) (vs:List Value),RepL μ h w cs vs→vs.length=cs.length∧J6 μ h w (fun i=>vs[i]?) cs
 | [],vs,r=>by
  have:vs=[]:=r
  subst this
  exact ⟨rfl,fun i a e=>by simp at e⟩
 | c::cs,vs,r=>by
  obtain ⟨v,vr,rfl,h1,h2⟩:=r
  obtain ⟨h3,h4⟩:=RepL.at cs vr h2
  refine ⟨by simp [h3],fun i a e=>?_⟩
  cases i with
  | zero =>
   simp only [List.getElem?_cons_zero,Option.some.injEq] at e
   subst e
   exact ⟨v,by simp,h1⟩
  | succ i =>
   simp only [List.getElem?_cons_succ] at e ⊢
   exact h4 i a e
theorem RepL.of_at:∀ (cs:List AV) (vs:List Value),vs.length=cs.length→J6 μ h w (fun i=>vs[i]?) cs→RepL μ h w cs vs
 | [],vs,hl,_=>List.length_eq_zero_iff.1 hl
 | c::cs,vs,hl,r=>by
  cases vs with
  | nil=>simp at hl
  | cons v vr =>
   obtain ⟨v',e,r0⟩:=r 0 c rfl
   simp only [List.getElem?_cons_zero,Option.some.injEq] at e
   subst e
   exact ⟨v,vr,rfl,r0,RepL.of_at cs vr (by simpa using hl) fun i a e=>by simpa using r (i+1) a (by simpa using e)⟩
theorem PMem.at {M:Nat→Nat→Prop} {b:Nat}:∀ (row:List AV) (p:Nat),PMem M w b row p→∀ i a,row[i]? = some a→∃ v,w.cell? ⟨b,p+i,none⟩=some v∧¬M b (p+i)∧PRep M w a v
 | [],_,_,i,a,e=>by simp at e
 | c::cs,p,r,i,a,e=>by
  obtain ⟨⟨v,h1,h2,h3⟩,h4⟩:=r
  cases i with
  | zero =>
   simp only [List.getElem?_cons_zero,Option.some.injEq] at e
   subst e
   exact ⟨v,h1,h2,h3⟩
  | succ i =>
   simp only [List.getElem?_cons_succ] at e
   have:=PMem.at cs (p+1) h4 i a e
   rwa [show p+1+i=p+(i+1) from by omega] at this
theorem PMem.of_at {M:Nat→Nat→Prop} {b:Nat}:∀ (row:List AV) (p:Nat),(∀ i a,row[i]? = some a→∃ v,w.cell? ⟨b,p+i,none⟩=some v∧¬M b (p+i)∧PRep M w a v)→PMem M w b row p
 | [],_,_=>trivial
 | c::cs,p,r=>by
  refine ⟨by simpa using r 0 c rfl,PMem.of_at cs (p+1) fun i a e=>?_⟩
  have:=r (i+1) a (by simpa using e)
  rwa [show p+(i+1)=p+1+i from by omega] at this
theorem PRows.at {M:Nat→Nat→Prop} {z b:Nat}:∀ (rs:List (List AV)) (o:Nat),PRows M w z b rs o→∀ i row,rs[i]? = some row→row.length=z∧Zl row=true∧PMem M w b row (o+i*z)
 | [],_,_,i,row,e=>by simp at e
 | r::rs,o,x,i,row,e=>by
  obtain ⟨h1,hs,h2,h3⟩:=x
  cases i with
  | zero =>
   simp only [List.getElem?_cons_zero,Option.some.injEq] at e
   subst e
   exact ⟨h1,hs,by simpa using h2⟩
  | succ i =>
   simp only [List.getElem?_cons_succ] at e
   have:=PRows.at rs (o+z) h3 i row e
   rwa [show o+z+i*z=o+(i+1)*z from by rw [Nat.succ_mul];omega] at this
theorem PRows.of_at {M:Nat→Nat→Prop} {z b:Nat}:∀ (rs:List (List AV)) (o:Nat),(∀ i row,rs[i]? = some row→row.length=z∧Zl row=true∧PMem M w b row (o+i*z))→PRows M w z b rs o
 | [],_,_=>trivial
 | r::rs,o,x=>by
  have h0:=x 0 r rfl
  refine ⟨h0.1,h0.2.1,by simpa using h0.2.2,PRows.of_at rs (o+z) fun i row e=>?_⟩
  have:=x (i+1) row (by simpa using e)
  rwa [show o+(i+1)*z=o+z+i*z from by rw [Nat.succ_mul];omega] at this
theorem ZkF (f:Nat→Option Value) (o:Nat):∀ n:Nat,(∀ i,i < n→∃ v,f (o+i)=some v)→∃ vs:List Value,vs.length=n∧∀ j v,vs[j]? = some v→f (o+j)=some v
 | 0,_=>⟨[],rfl,fun j v e=>by simp at e⟩
 | n+1,hx=>by
  obtain ⟨vs,hl,hv⟩:=ZkF f o n fun i hi=>hx i (by omega)
  obtain ⟨u,hu⟩:=hx n (by omega)
  refine ⟨vs++[u],by simp [hl],fun j v e=>?_⟩
  by_cases hj:j < n
  ·rw [List.getElem?_append_left (by omega)] at e
   exact hv j v e
  ·have hjn:j=n:=by
    have:=(List.getElem?_eq_some_iff.1 e).1
    simp [hl] at this;omega
   subst hjn
   rw [List.getElem?_append_right (by omega)] at e
   simp [hl] at e
   rw [←e];exact hu
theorem Zfk {t:TypeId} {cs:List AV} {o:Nat} {x:AV} {f:Nat→Option Value} (e:part (sh P t) cs o=some x) (hc:J6 μ h w f cs) :
  (sh P t=some .one∧∃ v,f o=some v∧Rep μ h w x v) ∨
  (∃ vs:List Value,sh P t=some (.agg vs.length)∧(∀ j v,vs[j]? = some v→f (o+j)=some v)∧Rep μ h w x (.agg vs.toArray)):=by
 unfold part at e
 split at e
 ·rename_i hs
  obtain ⟨v,hv,hr⟩:=hc o x e
  exact .inl ⟨hs,v,hv,hr⟩
 ·rename_i n hs
  split at e
  ·rename_i hle
   simp only [Option.some.injEq] at e
   subst e
   obtain ⟨vs,hl,hv⟩:=ZkF f o n fun i hi=>by
    obtain ⟨v,hv,_⟩:=hc (o+i) (cs[o+i]'(by omega)) (List.getElem?_eq_getElem (by omega))
    exact ⟨v,hv⟩
   refine .inr ⟨vs,by rw [hl];exact hs,hv,vs,rfl,RepL.of_at _ _ (by simp [hl];omega) fun i a ha=>?_⟩
   have hi:i < n:=by
    have:=(List.getElem?_eq_some_iff.1 ha).1
    simp at this;omega
   rw [List.getElem?_take,if_pos hi,List.getElem?_drop] at ha
   obtain ⟨v,hv',hr⟩:=hc (o+i) a ha
   have hvi:vs[i]? = some (vs[i]'(by omega)):=List.getElem?_eq_getElem (by omega)
   have:=hv i _ hvi
   refine ⟨vs[i]'(by omega),by simp,?_⟩
   rw [hv'] at this
   simp only [Option.some.injEq] at this
   rw [←this];exact hr
  ·simp at e
 ·simp at e
theorem Jn {t:TypeId} {b p o:Nat} {cs:List AV} {x:AV} (e:part (sh P t) cs o=some x)
  (hc:J6 μ h w (fun i=>w.cell? ⟨b,p+i,none⟩) cs):∃ v,(loadVar t ⟨b,p+o,none⟩).run P w=.ok v w∧Rep μ h w x v:=by
 rcases Zfk e hc with ⟨hs,v,hv,hr⟩ | ⟨vs,hs,hv,hr⟩
 ·refine ⟨v,?_,hr⟩
  simp only [loadVar,Sem.run_bind,Zpr hs,Result.andThen_ok]
  simp [hv]
 ·obtain ⟨h1,h2⟩:=ZlL (w:=w) hs
  refine ⟨_,?_,hr⟩
  have h3:=run_loadCells_list (P:=P) w ⟨b,p+o,none⟩ vs fun j v hj=>by
   rw [Wt,Nat.add_assoc];exact hv j v hj
  simp [loadVar,h1,h2,h3]
theorem ZdT {t:TypeId} {p x:AV} {v:Value} (hr:Rel μ h w) (e:Zee P t p h=some x) (hp:Rep μ h w p v) :
  ∃ u,(Instr.loadAt t v).run P w=.ok u w∧Rep μ h w x u:=by
 unfold Zee at e
 split at e
 ·rename_i row o
  obtain ⟨b,q,rfl,hm⟩:=hp
  have hc:J6 μ h w (fun i=>w.cell? ⟨b,q+i,none⟩) row:=fun i a ha=>by
   obtain ⟨u,h1,_,h3⟩:=PMem.at row q hm i a ha
   exact ⟨u,h1,Rep.pure a u h3⟩
  obtain ⟨u,h1,h2⟩:=Jn e hc
  exact ⟨u,by simp [Instr.loadAt,Instr.sureAddr,h1],h2⟩
 ·rename_i l o
  split at e
  ·rename_i cs hl
   obtain ⟨cs',b,hl',hm,rfl⟩:=hp
   obtain ⟨b',vs,T,hm',hw,_,hrl⟩:=hr.blk l _ hl
   have:b'=b:=by rw [hm] at hm';simpa using hm'.symm
   subst this
   have hc:J6 μ h w (fun i=>w.cell? ⟨b',0+i,none⟩) cs:=fun i a ha=>by
    obtain ⟨u,h1,h2⟩:=(RepL.at cs vs hrl).2 i a ha
    exact ⟨u,by simp only [World.cell?,hw];simpa using h1,h2⟩
   obtain ⟨u,h1,h2⟩:=Jn e hc
   rw [Nat.zero_add] at h1
   exact ⟨u,by simp [Instr.loadAt,Instr.sureAddr,h1],h2⟩
  ·simp at e
 ·rename_i l n i o
  split at e
  ·rename_i z rs wr hl
   split at e
   ·rename_i hn
    split at e
    ·rename_i row hrow
     obtain ⟨z',rs',wr',b,hl',_,rfl,hv⟩:=hp
     rw [hl] at hl'
     simp only [Option.some.injEq,Blk.rows.injEq] at hl'
     obtain ⟨rfl,rfl,rfl⟩:=hl'
     have hm:=hv hn.symm
     rcases hr.blk l _ hl with ⟨h0,_⟩ | ⟨b',vs,T,hm',⟨_,hw,_⟩,_,hin⟩
     ·subst h0;simp at hrow
     ·have:b'=b:=by rw [hm] at hm';simpa using hm'.symm
      subst this
      obtain ⟨_,_,hin⟩:=hin i row hrow
      have hc:J6 μ h w (fun c=>w.cell? ⟨b',i*z+c,none⟩) row:=fun c a ha=>by
       obtain ⟨u,h1,h2⟩:=hin c a ha
       exact ⟨u,by simp only [World.cell?,hw];simpa using h1,h2⟩
      obtain ⟨u,h1,h2⟩:=Jn e hc
      exact ⟨u,by simp [Instr.loadAt,Instr.sureAddr,h1],h2⟩
    ·simp at e
   ·simp at e
  ·simp at e
 ·simp at e
mutual
theorem XE {M:Nat→Nat→Prop}:∀ v:Value,PRep M w (Xr v) v
 | .int k n=>rfl
 | .bool b=>rfl
 | .string s=>by simp [Xr,PRep]
 | .pointer none=>rfl
 | .pointer (some _)=>trivial
 | .nilFunc=>rfl
 | .nilIface=>rfl
 | .map none=>rfl
 | .map (some _)=>trivial
 | .slice none 0 0=>rfl
 | .slice none 0 (_+1)=>trivial
 | .slice none (_+1) _=>trivial
 | .slice (some _) _ _=>trivial
 | .agg ⟨cs⟩=>⟨cs,rfl,Zfo cs⟩
 | .float _ _=>trivial
 | .complex _ _ _=>trivial
 | .chan _=>trivial
 | .func _ _ _=>trivial
 | .iface _ _=>trivial
 | .tuple _=>trivial
theorem Zfo {M:Nat→Nat→Prop}:∀ vs:List Value,PRepL M w (ZhB vs) vs
 | []=>rfl
 | v::vs=>⟨v,vs,rfl,XE v,Zfo vs⟩
end
def XB (μ:Mp Bs) (h:Zd) (w:World) (ev:Operand→AV) (ρ:Operand→Value):Prop:=∀ y,Rep μ h w (ev y) (ρ y)
theorem ZqX {fr:Fr} {a:Act} (hf:FrRel μ h w fr a.tmps):XB μ h w (ev fr) a.eval:=by
 intro y
 cases y with
 | tmp t=>exact hf t
 | const v=>exact Rep.pure _ _ (XE v)
 | global g=>exact trivial
 | func f=>exact ⟨[],rfl,rfl⟩
theorem Jf {ev:Operand→AV} {ρ:Operand→Value} (he:XB μ h w ev ρ):∀ xs:List Operand,RepL μ h w (evs ev xs) (xs.map ρ)
 | []=>rfl
 | x::xs=>⟨ρ x,xs.map ρ,rfl,he x,Jf he xs⟩
theorem JT {l n:Nat} {v:Value} {z:Nat} {rs:List (List AV)} (hr:Rel μ h w) (hl:h[l]? = some (.rows z rs false)) (hn:rs.length=n) (hz:ZL rs=[]) (hv:OwnRep μ h w l n v) :
  ∃ base cap,v=.slice base rs.length cap∧rs.length≤cap∧(rs=[]∨∃ b,base=some ⟨b,0,none⟩∧PRows (Mut μ h) w z b rs 0):=by
 obtain ⟨z',rs',wr',base,cap,hl',_,rfl,hv⟩:=hv
 rw [hl] at hl'
 simp only [Option.some.injEq,Blk.rows.injEq] at hl'
 obtain ⟨rfl,rfl,rfl⟩:=hl'
 obtain ⟨hc,_,hb⟩:=hv hn.symm
 refine ⟨base,cap,by rw [hn],by omega,?_⟩
 rcases hb with rfl | ⟨b,vs,T,rfl,hm,hw,_⟩
 ·left;exact List.length_eq_zero_iff.1 (by omega)
 ·rcases hr.blk l _ hl with ⟨h0,_⟩ | ⟨b',vs',T',hm',⟨_,hw',_⟩,hlen,hin⟩
  ·exact .inl h0
  ·have e:b'=b:=by rw [hm] at hm';simpa using hm'.symm
   subst e
   right
   refine ⟨b',rfl,PRows.of_at rs 0 fun i row hrow=>?_⟩
   obtain ⟨h1,hs1,h3⟩:=hin.none hz i row hrow
   refine ⟨h1,hs1,PMem.of_at row _ fun c a ha=>?_⟩
   obtain ⟨u,hu,hp⟩:=h3 c a ha
   have hi:i < rs.length:=(List.getElem?_eq_some_iff.1 hrow).1
   have hcl:c < z:=by rw [←h1];exact (List.getElem?_eq_some_iff.1 ha).1
   refine ⟨u,by simp only [World.cell?,hw'];simpa using hu,?_,hp⟩
   rintro (ho | ⟨l2,k2,hk2,hm2,ho⟩)
   ·exact hr.apart l b' _ (List.getElem?_eq_some_iff.1 hl).1 hm' ho
   have hlt:l2 < h.length:=(List.getElem?_eq_some_iff.1 hk2).1
   have hlt':l < h.length:=(List.getElem?_eq_some_iff.1 hl).1
   have e:=hr.inj l2 l b' hlt hlt' hm2 hm'
   subst e
   rw [hl] at hk2
   simp only [Option.some.injEq] at hk2
   subst hk2
   rcases ho with ho | ho
   ·simp at ho
   ·have:i*z+z≤rs.length*z:=by rw [←Nat.succ_mul];exact Nat.mul_le_mul_right z hi
    rw [Nat.mul_comm] at ho
    omega
mutual
theorem Y9 (hr:Rel μ h w):∀ (a a':AV) (v:Value),ZJ h a=some a'→Rep μ h w a v→PRep (Mut μ h) w a' v
 | .own l n,a',v,e,r=>by
  simp only [ZJ] at e
  split at e
  ·rename_i z rs wr hl
   split at e
   ·rename_i hc
    obtain ⟨hn,rfl,hz⟩:=hc
    simp only [Option.some.injEq] at e
    subst e
    obtain ⟨base,cap,hv,hc,hb⟩:=JT hr hl hn hz r
    exact ⟨base,cap,hv,hc,hb.imp id fun ⟨b,hb,hp⟩=>⟨b,0,z,hb,hp⟩⟩
   ·simp at e
  ·simp at e
 | .nils,a',v,e,r=>by
  simp only [ZJ,Option.some.injEq] at e
  subst e
  have:v=.slice none 0 0:=r
  exact ⟨none,0,this,Nat.le_refl _,.inl rfl⟩
 | .lit rs,a',v,e,r=>by
  simp only [ZJ,Option.some.injEq] at e
  subst e
  obtain ⟨base,hv,hb⟩:=r
  exact ⟨base,rs.length,hv,Nat.le_refl _,hb⟩
 | .agg cs,a',v,e,r=>by
  simp only [ZJ] at e
  split at e
  ·rename_i cs' hcs
   simp only [Option.some.injEq] at e
   subst e
   obtain ⟨vs,hv,hl⟩:=r
   exact ⟨vs,hv,Xd hr cs cs' vs hcs hl⟩
  ·simp at e
 | .tup cs,a',v,e,r=>by
  simp only [ZJ] at e
  split at e
  ·rename_i cs' hcs
   simp only [Option.some.injEq] at e
   subst e
   obtain ⟨vs,hv,hl⟩:=r
   exact ⟨vs,hv,Xd hr cs cs' vs hcs hl⟩
  ·simp at e
 | .fn f cs,a',v,e,r=>by
  simp only [ZJ] at e
  split at e
  ·rename_i cs' hcs
   simp only [Option.some.injEq] at e
   subst e
   obtain ⟨vs,hv,hl⟩:=r
   exact ⟨vs,hv,Xd hr cs cs' vs hcs hl⟩
  ·simp at e
 | .bnd f cs,a',v,e,r=>by
  simp only [ZJ] at e
  split at e
  ·rename_i cs' hcs
   simp only [Option.some.injEq] at e
   subst e
   obtain ⟨vs,hv,hl⟩:=r
   exact ⟨vs,hv,Xd hr cs cs' vs hcs hl⟩
  ·simp at e
 | .iface t a,a',v,e,r=>by
  simp only [ZJ] at e
  split at e
  ·rename_i b hb
   simp only [Option.some.injEq] at e
   subst e
   obtain ⟨x,hv,hx⟩:=r
   exact ⟨x,hv,Y9 hr a b x hb hx⟩
  ·simp at e
 | .ptr _ _,_,_,e,_=>by simp [ZJ] at e
 | .optr _ _ _ _,_,_,e,_=>by simp [ZJ] at e
 | .int _ _,_,_,e,r=>by simp only [ZJ,Option.some.injEq] at e;subst e;exact r
 | .bool _,_,_,e,r=>by simp only [ZJ,Option.some.injEq] at e;subst e;exact r
 | .str _,_,_,e,r=>by simp only [ZJ,Option.some.injEq] at e;subst e;exact r
 | .nilp,_,_,e,r=>by simp only [ZJ,Option.some.injEq] at e;subst e;exact r
 | .nilf,_,_,e,r=>by simp only [ZJ,Option.some.injEq] at e;subst e;exact r
 | .nili,_,_,e,r=>by simp only [ZJ,Option.some.injEq] at e;subst e;exact r
 | .emp _,_,_,e,r=>by simp only [ZJ,Option.some.injEq] at e;subst e;exact r
 | .nilm,_,_,e,r=>by simp only [ZJ,Option.some.injEq] at e;subst e;exact r
 | .rows _,_,_,e,r=>by simp only [ZJ,Option.some.injEq] at e;subst e;exact r
 | .rptr _ _,_,_,e,r=>by simp only [ZJ,Option.some.injEq] at e;subst e;exact r
 | .any,_,_,e,_=>by simp only [ZJ,Option.some.injEq] at e;subst e;exact trivial
theorem Xd (hr:Rel μ h w):∀ (l l':List AV) (vs:List Value),Yk h l=some l'→RepL μ h w l vs→PRepL (Mut μ h) w l' vs
 | [],l',vs,e,r=>by
  simp only [Yk,Option.some.injEq] at e
  subst e
  exact r
 | a::r,l',vs,e,x=>by
  simp only [Yk] at e
  split at e
  ·rename_i a1 h1
   split at e
   ·rename_i r1 h2
    simp only [Option.some.injEq] at e
    subst e
    obtain ⟨v,vr,hv,x1,x2⟩:=x
    exact ⟨v,vr,hv,Y9 hr a a1 v h1 x1,Xd hr r r1 vr h2 x2⟩
   ·simp at e
  ·simp at e
end
mutual
theorem JA (hr:Rel μ h w):∀ (a a':AV) (v:Value),ZS h a=some a'→Rep μ h w a v→PRep (Mut μ h) w a' v
 | .own l n,a',v,e,r=>by
  simp only [ZS] at e
  split at e
  ·rename_i z rs wr hl
   split at e
   ·rename_i hc
    obtain ⟨hn,rfl,hz⟩:=hc
    simp only [Option.some.injEq] at e
    subst e
    obtain ⟨base,cap,hv,hc,hb⟩:=JT hr hl hn hz r
    exact ⟨base,cap,hv,hc,hb.imp id fun ⟨b,hb,hp⟩=>⟨b,0,z,hb,hp⟩⟩
   ·simp at e
  ·simp at e
 | .nils,a',v,e,r=>by
  simp only [ZS,Option.some.injEq] at e
  subst e
  exact r
 | .lit rs,a',v,e,r=>by
  simp only [ZS,Option.some.injEq] at e
  subst e
  exact r
 | .agg cs,a',v,e,r=>by
  simp only [ZS] at e
  split at e
  ·rename_i cs' hcs
   simp only [Option.some.injEq] at e
   subst e
   obtain ⟨vs,hv,hl⟩:=r
   exact ⟨vs,hv,Xn hr cs cs' vs hcs hl⟩
  ·simp at e
 | .tup cs,a',v,e,r=>by
  simp only [ZS] at e
  split at e
  ·rename_i cs' hcs
   simp only [Option.some.injEq] at e
   subst e
   obtain ⟨vs,hv,hl⟩:=r
   exact ⟨vs,hv,Xn hr cs cs' vs hcs hl⟩
  ·simp at e
 | .fn f cs,a',v,e,r=>by
  simp only [ZS] at e
  split at e
  ·rename_i cs' hcs
   simp only [Option.some.injEq] at e
   subst e
   obtain ⟨vs,hv,hl⟩:=r
   exact ⟨vs,hv,Xn hr cs cs' vs hcs hl⟩
  ·simp at e
 | .bnd f cs,a',v,e,r=>by
  simp only [ZS] at e
  split at e
  ·rename_i cs' hcs
   simp only [Option.some.injEq] at e
   subst e
   obtain ⟨vs,hv,hl⟩:=r
   exact ⟨vs,hv,Xn hr cs cs' vs hcs hl⟩
  ·simp at e
 | .iface t a,a',v,e,r=>by
  simp only [ZS] at e
  split at e
  ·rename_i b hb
   simp only [Option.some.injEq] at e
   subst e
   obtain ⟨x,hv,hx⟩:=r
   exact ⟨x,hv,JA hr a b x hb hx⟩
  ·simp at e
 | .ptr _ _,_,_,e,_=>by simp [ZS] at e
 | .optr _ _ _ _,_,_,e,_=>by simp [ZS] at e
 | .int _ _,_,_,e,r=>by simp only [ZS,Option.some.injEq] at e;subst e;exact r
 | .bool _,_,_,e,r=>by simp only [ZS,Option.some.injEq] at e;subst e;exact r
 | .str _,_,_,e,r=>by simp only [ZS,Option.some.injEq] at e;subst e;exact r
 | .nilp,_,_,e,r=>by simp only [ZS,Option.some.injEq] at e;subst e;exact r
 | .nilf,_,_,e,r=>by simp only [ZS,Option.some.injEq] at e;subst e;exact r
 | .nili,_,_,e,r=>by simp only [ZS,Option.some.injEq] at e;subst e;exact r
 | .emp _,_,_,e,r=>by simp only [ZS,Option.some.injEq] at e;subst e;exact r
 | .nilm,_,_,e,r=>by simp only [ZS,Option.some.injEq] at e;subst e;exact r
 | .rows _,_,_,e,r=>by simp only [ZS,Option.some.injEq] at e;subst e;exact r
 | .rptr _ _,_,_,e,r=>by simp only [ZS,Option.some.injEq] at e;subst e;exact r
 | .any,_,_,e,_=>by simp only [ZS,Option.some.injEq] at e;subst e;exact trivial
theorem Xn (hr:Rel μ h w):∀ (l l':List AV) (vs:List Value),YN h l=some l'→RepL μ h w l vs→PRepL (Mut μ h) w l' vs
 | [],l',vs,e,r=>by
  simp only [YN,Option.some.injEq] at e
  subst e
  exact r
 | a::r,l',vs,e,x=>by
  simp only [YN] at e
  split at e
  ·rename_i a1 h1
   split at e
   ·rename_i r1 h2
    simp only [Option.some.injEq] at e
    subst e
    obtain ⟨v,vr,hv,x1,x2⟩:=x
    exact ⟨v,vr,hv,JA hr a a1 v h1 x1,Xn hr r r1 vr h2 x2⟩
   ·simp at e
  ·simp at e
end
theorem Zos (hr:Rel μ h w) {kn:Bool} {a a':AV} {v:Value} (e:pur kn h a=some a') (r:Rep μ h w a v):PRep (Mut μ h) w a' v:=by
 cases kn with
 | true=>exact JA hr a a' v e r
 | false=>exact Y9 hr a a' v e r
theorem ZbX (hr:Rel μ h w) {nl:Bool} {l l':List AV} {vs:List Value} (e:Zdy nl h l=some l') (r:RepL μ h w l vs):PRepL (Mut μ h) w l' vs:=by
 cases nl with
 | true=>exact Xn hr l l' vs e r
 | false=>exact Xd hr l l' vs e r
theorem Zld {c a b x:AV} {vc va vb:Value} (e:pick c a b=some x) (hc:Rep μ h w c vc) (ha:Rep μ h w a va) (hb:Rep μ h w b vb) :
  ∃ t,vc=.bool t∧Rep μ h w x (if t then va else vb):=by
 unfold pick at e
 split at e
 ·rename_i t
  simp only [Option.some.injEq] at e
  subst e
  refine ⟨t,hc,?_⟩
  cases t
  ·exact hb
  ·exact ha
 ·simp at e
theorem Zf8 {i:Nat} {a x:AV} {v:Value} (e:ZcT i a=some x) (ha:Rep μ h w a v):∃ u,(Instr.extract v i).run P w=.ok u w∧Rep μ h w x u:=by
 unfold ZcT at e
 split at e
 ·rename_i l
  obtain ⟨vs,rfl,hl⟩:=ha
  obtain ⟨u,h1,h2⟩:=(RepL.at l vs hl).2 i x e
  refine ⟨u,?_,h2⟩
  simp [Instr.extract,h1]
 ·simp at e
theorem ZhM {n:Nat} {a x:AV} {v:Value} (e:Zhu n a=some x) (ha:Rep μ h w a v):∃ b o,v=.pointer (some ⟨b,o,none⟩)∧Rep μ h w x (.pointer (some ⟨b,o+n,none⟩)):=by
 unfold Zhu at e
 split at e
 ·rename_i l o
  simp only [Option.some.injEq] at e
  subst e
  obtain ⟨cs,b,h1,h2,rfl⟩:=ha
  exact ⟨b,o,rfl,cs,b,h1,h2,rfl⟩
 ·rename_i r o
  simp only [Option.some.injEq] at e
  subst e
  obtain ⟨b,p,rfl,h1⟩:=ha
  exact ⟨b,p+o,rfl,b,p,by simp [Nat.add_assoc],h1⟩
 ·rename_i l m i o
  simp only [Option.some.injEq] at e
  subst e
  obtain ⟨z,rs,wr,b,h1,h2,rfl,h3⟩:=ha
  exact ⟨b,i*z+o,rfl,z,rs,wr,b,h1,h2,by simp [Nat.add_assoc],h3⟩
 ·rename_i t l o
  simp only [Option.some.injEq] at e
  subst e
  obtain ⟨cs,b,h1,h2,rfl,_⟩:=ha
  exact ⟨b,o,rfl,cs,b,h1,h2,rfl⟩
 ·simp at e
theorem ZlT {t:TypeId} {f o:Nat} {u:TypeId} (e:fo P t f=some (o,u)) :
  ∃ fs x i,P.underlying t=some (.struct fs)∧fs[f]? = some x∧x.offset=o∧x.type=u∧P.info? x.type=some i∧i.size≠0:=by
 unfold fo at e
 split at e
 ·rename_i fs hu
  split at e
  ·rename_i x hx
   split at e
   ·rename_i i hi
    split at e
    ·simp at e
    ·rename_i hz
     simp only [Option.some.injEq,Prod.mk.injEq] at e
     exact ⟨fs,x,i,hu,hx,e.1,e.2,hi,hz⟩
   ·simp at e
  ·simp at e
 ·simp at e
theorem Zhr {t:TypeId} {f:Nat} {a x:AV} {v:Value} (e:Zir a (fo P t f)=some x) (ha:Rep μ h w a v) :
  ∃ u,(Instr.fieldAt t v f).run P w=.ok u w∧Rep μ h w x u:=by
 unfold Zir at e
 split at e
 ·rename_i o u hf
  obtain ⟨fs,y,i,hu,hx,rfl,rfl,hi,hz⟩:=ZlT hf
  obtain ⟨b,p,rfl,hr⟩:=ZhM e ha
  refine ⟨_,?_,hr⟩
  simp [Instr.fieldAt,run_underlying hu,hx,Instr.sureAddr,fieldPlace,sizeOf,typeInfo,hi,hz,Wt]
 ·simp at e
theorem Zjo {t:TypeId} {cs:List AV} {o:Nat} {x:AV} {vs:List Value} (e:part (sh P t) cs o=some x) (hl:RepL μ h w cs vs) :
  ∃ u,(Go.part t vs.toArray o).run P w=.ok u w∧Rep μ h w x u:=by
 obtain ⟨_,hat⟩:=RepL.at cs vs hl
 rcases Zfk e hat with ⟨hs,u,h1,h2⟩ | ⟨us,hs,h1,h2⟩
 ·exact ⟨u,by simp [Go.part,Zpr hs,h1],h2⟩
 ·refine ⟨_,?_,h2⟩
  obtain ⟨h3,h4⟩:=ZlL (w:=w) hs
  simp only [Go.part,Sem.run_bind,Result.andThen_ok,h3,if_true,h4,Sem.run_pure]
  congr 2
  apply Array.ext'
  simp only [List.extract_toArray,List.extract_eq_take_drop,Nat.add_sub_cancel_left]
  apply List.ext_getElem?
  intro j
  by_cases hj:j < us.length
  ·rw [List.getElem?_take,if_pos hj,List.getElem?_drop]
   rw [h1 j us[j] (List.getElem?_eq_getElem hj),List.getElem?_eq_getElem hj]
  ·rw [List.getElem?_take,if_neg hj,List.getElem?_eq_none (by omega)]
theorem ZhY {t:TypeId} {f:Nat} {a x:AV} {v:Value} (e:Zh8 P a (fo P t f)=some x) (ha:Rep μ h w a v) :
  ∃ u,(Instr.field t v f).run P w=.ok u w∧Rep μ h w x u:=by
 unfold Zh8 at e
 split at e
 ·rename_i o u hf
  obtain ⟨fs,y,i,hu,hx,rfl,rfl,hi,hz⟩:=ZlT hf
  split at e
  ·rename_i cs
   obtain ⟨vs,rfl,hl⟩:=ha
   obtain ⟨u,h1,h2⟩:=Zjo e hl
   exact ⟨u,by simp [Instr.field,run_underlying hu,hx,asAgg,h1],h2⟩
  ·simp at e
 ·simp at e
theorem at?_spec {α:Type} {l:List α} {i:Int} {x:α} (e:at? l i=some x):0≤i∧l[i.toNat]? = some x∧i < (l.length:Int):=by
 unfold at? at e
 split at e
 ·rename_i hi
  have:=(List.getElem?_eq_some_iff.1 e).1
  exact ⟨hi,e,by omega⟩
 ·simp at e
theorem Zbg {t:TypeId} {z b:Nat} (e:es P t=some (z,b)):∃ u i y,P.underlying t=some (.slice u)∧P.info? u=some i∧i.size=z∧i.bytes=b∧i.zero=some y∧y.cells.size=z:=by
 unfold es at e
 split at e
 ·rename_i u hu
  split at e
  ·rename_i i hi
   split at e
   ·rename_i y hy
    split at e
    ·rename_i hz
     simp only [Option.some.injEq,Prod.mk.injEq] at e
     exact ⟨u,i,y,hu,hi,e.1,e.2,hy,by rw [hz];exact e.1⟩
    ·simp at e
   ·simp at e
  ·simp at e
 ·simp at e
theorem Zmj {t:TypeId} {z b:Nat} (e:es P t=some (z,b)):∃ u i,P.underlying t=some (.slice u)∧P.info? u=some i∧i.size=z∧i.bytes=b:=by
 obtain ⟨u,i,_,h1,h2,h3,h4,_⟩:=Zbg e
 exact ⟨u,i,h1,h2,h3,h4⟩
theorem ZmD {t:TypeId} {n z:Nat} {u:TypeId} (e:ar P t=some (n,u,z)):∃ i,P.underlying t=some (.array n u)∧P.info? u=some i∧i.size=z:=by
 unfold ar at e
 split at e
 ·rename_i n' u' hu
  cases hi:P.info? u' with
  | none=>simp [hi] at e
  | some i =>
   simp only [hi,Option.map_some,Option.some.injEq,Prod.mk.injEq] at e
   obtain ⟨rfl,rfl,rfl⟩:=e
   exact ⟨i,hu,hi,rfl⟩
 ·simp at e
theorem ZnV (s:List UInt8) (i:Nat):((⟨s.toArray⟩:ByteArray)[i]?)=s[i]? := by
 have hs:(⟨s.toArray⟩:ByteArray).size=s.length:=rfl
 by_cases hi:i < s.length
 ·rw [getElem?_pos (⟨s.toArray⟩:ByteArray) i (by omega),List.getElem?_eq_getElem hi]
  rfl
 ·rw [getElem?_neg (⟨s.toArray⟩:ByteArray) i (by omega),List.getElem?_eq_none (by omega)]
theorem Zhy {t:TypeId} {a i x:AV} {v vi:Value} (e:Zip P t i a=some x) (ha:Rep μ h w a v) (hi:Rep μ h w i vi) :
  ∃ u,(Instr.index t v vi).run P w=.ok u w∧Rep μ h w x u:=by
 unfold Zip at e
 split at e
 ·rename_i k i
  have:vi=.int k i:=hi
  subst this
  split at e
  ·rename_i s
   have:v=.string ⟨s.toArray⟩:=ha
   subst this
   split at e
   ·rename_i ht
    split at e
    ·rename_i b hb
     simp only [Option.some.injEq] at e
     subst e
     obtain ⟨h1,h2,_⟩:=at?_spec hb
     have hu:P.underlying t=some .string:=by
      unfold tk at ht
      split at ht
      ·assumption
      ·split at ht<;>simp at ht
      ·split at ht<;>simp at ht
      ·simp at ht
     refine ⟨.int .u8 (b.toNat:Int),?_,rfl⟩
     simp [Instr.index,asIntOf,run_underlying hu,h1,ZnV,h2]
    ·simp at e
   ·simp at e
  ·rename_i cs
   split at e
   ·rename_i n u z har
    split at e
    ·rename_i hc
     obtain ⟨j,hu,hj,rfl⟩:=ZmD har
     obtain ⟨vs,rfl,hl⟩:=ha
     obtain ⟨y,h1,h2⟩:=Zjo e hl
     refine ⟨y,?_,h2⟩
     simp [Instr.index,asIntOf,run_underlying hu,hc,sizeOf,typeInfo,hj,h1]
    ·simp at e
   ·simp at e
  ·simp at e
 ·simp at e
theorem Zhc {t:TypeId} {a i x:AV} {v vi:Value} (e:Zb2 P t h i a=some x) (ha:Rep μ h w a v) (hi:Rep μ h w i vi) :
  ∃ u,(Instr.indexAt t v vi).run P w=.ok u w∧Rep μ h w x u:=by
 have rowsCase:∀ (k:IntKind) (i:Int) (rs:List (List AV)) (z by_:Nat) (row:List AV) (base:Option Addr) (cap:Nat),es P t=some (z,by_)→at? rs i=some row→Zmb z row=some x →
   (rs=[]∨∃ b o z,base=some ⟨b,o,none⟩∧PRows (Mut μ h) w z b rs o)→∃ u,(Instr.indexAt t (.slice base rs.length cap) (.int k i)).run P w=.ok u w∧Rep μ h w x u:=by
  intro k i rs z by_ row base cap hes hat hok hb
  obtain ⟨u,j,hu,hj,rfl,_⟩:=Zmj hes
  obtain ⟨h1,h2,h3⟩:=at?_spec hat
  unfold Zmb at hok
  split at hok
  ·rename_i hz
   simp only [Option.some.injEq] at hok
   subst hok
   rcases hb with rfl | ⟨b,o,z',rfl,hp⟩
   ·simp at h2
   ·obtain ⟨h4,_,h5⟩:=PRows.at rs o hp i.toNat row h2
    have e:z'=j.size:=by omega
    subst e
    refine ⟨.pointer (some ⟨b,o+i.toNat*j.size,none⟩),?_,⟨b,_,rfl,h5⟩⟩
    simp [Instr.indexAt,asIntOf,run_underlying hu,h1,h3,sizeOf,typeInfo,hj,Wt]
  ·simp at hok
 unfold Zb2 at e
 split at e
 ·rename_i k i
  have:vi=.int k i:=hi
  subst this
  split at e
  ·rename_i rs
   split at e
   ·rename_i z by_ hes
    split at e
    ·rename_i row hrow
     obtain ⟨base,cap,rfl,_,hb⟩:=ha
     exact rowsCase k i rs z by_ row base cap hes hrow e hb
    ·simp at e
   ·simp at e
  ·rename_i rs
   split at e
   ·rename_i z by_ hes
    split at e
    ·rename_i row hrow
     obtain ⟨base,rfl,hb⟩:=ha
     exact rowsCase k i rs z by_ row base rs.length hes hrow e hb
    ·simp at e
   ·simp at e
  ·rename_i l n
   split at e
   ·rename_i z by_ hes
    obtain ⟨u,j,hu,hj,rfl,_⟩:=Zmj hes
    split at e
    ·rename_i sz rs wr hl
     split at e
     ·rename_i hc
      obtain ⟨hn,rfl⟩:=hc
      split at e
      ·rename_i row hrow
       simp only [Option.some.injEq] at e
       subst e
       obtain ⟨h1,h2,h3⟩:=at?_spec hrow
       obtain ⟨z',rs',wr',base,cap,hl',hle,rfl,hv⟩:=ha
       rw [hl] at hl'
       simp only [Option.some.injEq,Blk.rows.injEq] at hl'
       obtain ⟨rfl,rfl,rfl⟩:=hl'
       obtain ⟨hcap,_,hb⟩:=hv hn.symm
       rcases hb with rfl | ⟨b,vs,T,rfl,hm,hw,_⟩
       ·have:rs.length=0:=by omega
        omega
       ·refine ⟨.pointer (some ⟨b,i.toNat*j.size,none⟩),?_,⟨j.size,rs,wr,b,hl,by omega,rfl,fun _=>hm⟩⟩
        simp [Instr.indexAt,asIntOf,run_underlying hu,h1,sizeOf,typeInfo,hj,Wt]
        omega
      ·simp at e
     ·simp at e
    ·simp at e
   ·simp at e
  ·rename_i l o
   split at e
   ·rename_i n u z har
    split at e
    ·rename_i hc
     simp only [Option.some.injEq] at e
     subst e
     obtain ⟨j,hu,hj,rfl⟩:=ZmD har
     obtain ⟨cs,b,h1,h2,rfl⟩:=ha
     refine ⟨.pointer (some ⟨b,o+i.toNat*j.size,none⟩),?_,⟨cs,b,h1,h2,rfl⟩⟩
     simp [Instr.indexAt,asIntOf,run_underlying hu,Instr.sureAddr,hc,sizeOf,typeInfo,hj,Wt]
    ·simp at e
   ·simp at e
  ·simp at e
 ·simp at e
def Jt (μ:Mp Bs) (h:Zd) (w:World):Option AV→Option Value→Prop
 | none,none=>True
 | some a,some v=>Rep μ h w a v
 | _,_=>False
theorem Zfq {n:Nat} {x:Option AV} {vx:Option Value} {r:Option Int} (e:ZeT n x=some r) (hx:Jt μ h w x vx) :
  (r=none∧vx=none)∨∃ k i,r=some i∧vx=some (.int k i)∧0≤i∧i≤(n:Int):=by
 unfold ZeT at e
 split at e
 ·cases vx with
  | none=>simp only [Option.some.injEq] at e;exact .inl ⟨e.symm,rfl⟩
  | some v=>exact hx.elim
 ·rename_i k i
  split at e
  ·rename_i hc
   cases vx with
   | none=>exact hx.elim
   | some v =>
    have:v=.int k i:=hx
    simp only [Option.some.injEq] at e
    exact .inr ⟨k,i,e.symm,by rw [this],hc.1,hc.2⟩
  ·simp at e
 ·simp at e
theorem Zaq {n m a b:Nat} {lo hi:Option AV} {vl vh:Option Value} (isS:Bool) (e:Qz n lo hi=some (a,b)) (hl:Jt μ h w lo vl) (hh:Jt μ h w hi vh) (hm:n≤m) :
  (Instr.sliceBounds isS n m vl vh none).run P w=.ok (a,b,m) w∧a≤b∧b≤n:=by
 unfold Qz at e
 split at e
 ·rename_i b' hb
  split at e
  ·rename_i a' ha
   simp only [Option.some.injEq,Prod.mk.injEq] at e
   obtain ⟨rfl,rfl⟩:=e
   have H:(vh=none∧b'=n)∨∃ k i,vh=some (.int k i)∧0≤i∧i≤(n:Int)∧b'=i.toNat:=by
    cases hbd:ZeT n hi with
    | none=>simp [hbd,ZoK] at hb
    | some r =>
     rcases Zfq hbd hh with ⟨rfl,rfl⟩ | ⟨k,i,rfl,rfl,h1,h2⟩
     ·simp only [hbd,ZoK,Option.some.injEq] at hb
      exact .inl ⟨rfl,hb.symm⟩
     ·simp only [hbd,ZoK,Option.some.injEq] at hb
      exact .inr ⟨k,i,rfl,h1,h2,hb.symm⟩
   have L:(vl=none∧a'=0)∨∃ k i,vl=some (.int k i)∧0≤i∧i≤(b':Int)∧a'=i.toNat:=by
    cases hbd:ZeT n lo with
    | none=>simp [hbd,low] at ha
    | some r =>
     rcases Zfq hbd hl with ⟨rfl,rfl⟩ | ⟨k,i,rfl,rfl,h1,h2⟩
     ·simp only [hbd,low,Option.some.injEq] at ha
      exact .inl ⟨rfl,ha.symm⟩
     ·simp only [hbd,low] at ha
      split at ha
      ·rename_i h3
       simp only [Option.some.injEq] at ha
       exact .inr ⟨k,i,rfl,h1,h3,ha.symm⟩
      ·simp at ha
   rcases H with ⟨rfl,rfl⟩ | ⟨k,i,rfl,h1,h2,rfl⟩<;>rcases L with ⟨rfl,rfl⟩ | ⟨k',i',rfl,h3,h4,rfl⟩
   ·refine ⟨by simp [Instr.sliceBounds],by omega,by omega⟩
   ·refine ⟨by simp [Instr.sliceBounds,Instr.sliceBound,asIntOf,h3,h4],by omega,by omega⟩
   ·have:i≤(m:Int):=by omega
    refine ⟨by simp [Instr.sliceBounds,Instr.sliceBound,asIntOf,h1,this],by omega,by omega⟩
   ·have:i≤(m:Int):=by omega
    have h5:¬max i 0 < i':=by omega
    refine ⟨by simp [Instr.sliceBounds,Instr.sliceBound,asIntOf,h1,this,h3,h5],by omega,by omega⟩
  ·simp at e
 ·simp at e
theorem ZrI {α:Type} (l:List α) (a b i:Nat):(cut l a b)[i]? = if i < b - a then l[a+i]? else none:=by
 unfold cut
 rw [List.getElem?_take]
 split
 ·rw [List.getElem?_drop]
 ·rfl
theorem ZhF {α:Type} (l:List α) (a b:Nat) (hb:b≤l.length):(cut l a b).length=b - a:=by
 unfold cut
 simp
 omega
theorem Qg {z:Nat}:∀ {rs:List (List AV)},YB z rs=true→∀ (i:Nat) (row:List AV),rs[i]? = some row→row.length=z
 | [],_,i,row,e=>by simp at e
 | r::rs,hx,i,row,e=>by
  simp only [YB,Bool.and_eq_true,beq_iff_eq] at hx
  cases i with
  | zero=>simp only [List.getElem?_cons_zero,Option.some.injEq] at e;rw [←e];exact hx.1
  | succ i=>exact Qg hx.2 i row (by simpa using e)
theorem W9 {t:TypeId} {z b:Nat} (e:tk P t=.slice z b):∃ u i,P.underlying t=some (.slice u)∧P.info? u=some i∧i.size=z∧i.bytes=b:=by
 unfold tk at e
 split at e
 ·simp at e
 ·rename_i u hu
  split at e
  ·rename_i i hi
   simp only [TK.slice.injEq] at e
   exact ⟨u,i,hu,hi,e.1,e.2⟩
  ·simp at e
 ·split at e<;>simp at e
 ·simp at e
theorem ZvU {t:TypeId} {n:Nat} (e:tk P t=.arr n):∃ u i,P.underlying t=some (.array n u)∧P.info? u=some i:=by
 unfold tk at e
 split at e
 ·simp at e
 ·split at e<;>simp at e
 ·rename_i m u hu
  split at e
  ·rename_i i hi
   simp only [TK.arr.injEq] at e
   subst e
   exact ⟨u,i,hu,hi⟩
  ·simp at e
 ·simp at e
theorem Zrb {t:TypeId} (e:tk P t=.str):P.underlying t=some .string:=by
 unfold tk at e
 split at e
 ·assumption
 ·split at e<;>simp at e
 ·split at e<;>simp at e
 ·simp at e
theorem Zhg {t:TypeId} {a x:AV} {lo hi:Option AV} {v:Value} {vl vh:Option Value} (ht:tk P t=.str) (e:Zig lo hi a=some x) (ha:Rep μ h w a v) (hl:Jt μ h w lo vl) (hh:Jt μ h w hi vh) :
  ∃ u,(Instr.sliceAt t v vl vh none).run P w=.ok u w∧Rep μ h w x u:=by
 have hu:=Zrb ht
 unfold Zig at e
 split at e
 ·rename_i s
  have:v=.string ⟨s.toArray⟩:=ha
  subst this
  split at e
  ·rename_i p q hb
   simp only [Option.some.injEq] at e
   subst e
   obtain ⟨h1,h2,h3⟩:=Zaq (P:=P) (m:=s.length) false hb hl hh (Nat.le_refl _)
   refine ⟨.string ((⟨s.toArray⟩:ByteArray).extract p q),?_,?_⟩
   ·have hs:(⟨s.toArray⟩:ByteArray).size=s.length:=rfl
    simp [Instr.sliceAt,run_underlying hu,Instr.slice,hs,h1]
   ·show _=_
    rw [Lib.extract_eq]
    rfl
  ·simp at e
 ·simp at e
theorem ZhC {t:TypeId} {z bb:Nat} {a x:AV} {lo hi:Option AV} {v:Value} {vl vh:Option Value} (ht:tk P t=.slice z bb) (hr:Rel μ h w) (e:Zfj h z lo hi a=some x) (ha:Rep μ h w a v) (hl:Jt μ h w lo vl) (hh:Jt μ h w hi vh) :
  ∃ u,(Instr.sliceAt t v vl vh none).run P w=.ok u w∧Rep μ h w x u:=by
 obtain ⟨y,j,hu,hj,rfl,_⟩:=W9 ht
 have main:∀ (rs:List (List AV)) (base:Option Addr) (cap p q:Nat),Qz rs.length lo hi=some (p,q)→rs.length≤cap →
   (rs=[]∨∃ b o z',base=some ⟨b,o,none⟩∧PRows (Mut μ h) w z' b rs o)→(∀ (i:Nat) (row:List AV),rs[i]? = some row→row.length=j.size) →
   ∃ u,(Instr.sliceAt t (.slice base rs.length cap) vl vh none).run P w=.ok u w∧Rep μ h w (.rows (cut rs p q)) u:=by
  intro rs base cap p q hb hcap hm hz
  obtain ⟨h1,h2,h3⟩:=Zaq (P:=P) (m:=cap) true hb hl hh hcap
  refine ⟨.slice (if cap=p then base else base.map (·.add (p*j.size))) (q - p) (cap - p),?_,?_⟩
  ·simp [Instr.sliceAt,run_underlying hu,Instr.slice,h1,sizeOf,typeInfo,hj]
  ·refine ⟨_,cap - p,by rw [ZhF _ _ _ h3],by rw [ZhF _ _ _ h3];omega,?_⟩
   by_cases hpq:q=p
   ·left
    apply List.length_eq_zero_iff.1
    rw [ZhF _ _ _ h3]
    omega
   ·right
    have hne:cap≠p:=by omega
    rcases hm with rfl | ⟨b,o,z',rfl,hp⟩
    ·simp at h3;omega
    ·have hz':z'=j.size:=by
      have hlt:0 < rs.length:=by omega
      have h4:=(PRows.at rs o hp 0 _ (List.getElem?_eq_getElem hlt)).1
      have h5:=hz 0 _ (List.getElem?_eq_getElem hlt)
      omega
     subst hz'
     refine ⟨b,o+p*j.size,j.size,by simp [hne,Wt],PRows.of_at _ _ fun i row hi'=>?_⟩
     rw [ZrI] at hi'
     split at hi'
     ·have:=PRows.at rs o hp (p+i) row hi'
      rwa [show o+(p+i)*j.size=o+p*j.size+i*j.size from by rw [Nat.add_mul];omega] at this
     ·simp at hi'
 unfold Zfj at e
 split at e
 ·rename_i rs
  split at e
  ·rename_i p q hb
   split at e
   ·rename_i hall
    simp only [Option.some.injEq] at e
    subst e
    obtain ⟨base,cap,rfl,hc,hm⟩:=ha
    exact main rs base cap p q hb hc hm (Qg hall)
   ·simp at e
  ·simp at e
 ·rename_i rs
  split at e
  ·rename_i p q hb
   split at e
   ·rename_i hall
    simp only [Option.some.injEq] at e
    subst e
    obtain ⟨base,rfl,hm⟩:=ha
    exact main rs base rs.length p q hb (Nat.le_refl _) hm (Qg hall)
   ·simp at e
  ·simp at e
 ·split at e
  ·rename_i p q hb
   simp only [Option.some.injEq] at e
   subst e
   have hv:v=.slice none 0 0:=ha
   subst hv
   exact main [] none 0 p q hb (Nat.le_refl _) (.inl rfl) (by simp)
  ·simp at e
 ·rename_i l n
  split at e
  ·rename_i y' rs hl'
   split at e
   ·rename_i hc
    obtain ⟨hn,rfl,hz⟩:=hc
    split at e
    ·rename_i p q hb
     simp only [Option.some.injEq] at e
     subst e
     obtain ⟨base,cap,rfl,hc,hm⟩:=JT hr hl' hn hz ha
     refine main rs base cap p q hb hc (hm.imp id fun ⟨b,hb,hp⟩=>⟨b,0,_,hb,hp⟩) fun i row hrow=>?_
     rcases hr.blk l _ hl' with ⟨h0,_⟩ | ⟨b',vs,T,_,_,_,hin⟩
     ·subst h0;simp at hrow
     ·exact (hin i row hrow).1
    ·simp at e
   ·simp at e
  ·simp at e
 ·simp at e
theorem ZdE (M:Nat→Nat→Prop) (w:World) (b:Nat):∀ (n o:Nat),PRows M w 0 b (List.replicate n []) o
 | 0,_=>trivial
 | n+1,o=>⟨rfl,rfl,trivial,ZdE M w b n (o+0)⟩
theorem Zfz {t:TypeId} {n:Nat} {a x:AV} {lo hi:Option AV} {v:Value} {vl vh:Option Value} (ht:tk P t=.arr n) (e:ZcV n lo hi a=some x) (ha:Rep μ h w a v) (hl:Jt μ h w lo vl) (hh:Jt μ h w hi vh) :
  ∃ u,(Instr.sliceAt t v vl vh none).run P w=.ok u w∧Rep μ h w x u:=by
 obtain ⟨y,j,hu,hj⟩:=ZvU ht
 unfold ZcV at e
 split at e
 ·rename_i l o
  split at e
  ·rename_i p q hb
   simp only [Option.some.injEq] at e
   subst e
   obtain ⟨cs,b,_,_,rfl⟩:=ha
   obtain ⟨h1,h2,h3⟩:=Zaq (P:=P) (m:=n) false hb hl hh (Nat.le_refl _)
   refine ⟨.slice (some (if n=p then ⟨b,o,none⟩ else Addr.add ⟨b,o,none⟩ (p*j.size))) (q - p) (n - p),?_,?_⟩
   ·simp [Instr.sliceAt,run_underlying hu,Instr.sureAddr,h1,sizeOf,typeInfo,hj]
   ·refine ⟨_,n - p,by rw [List.length_replicate],by rw [List.length_replicate];omega,.inr ?_⟩
    by_cases hnp:n=p
    ·exact ⟨b,o,0,by simp [hnp],ZdE _ _ _ _ _⟩
    ·exact ⟨b,o+p*j.size,0,by simp [hnp,Wt],ZdE _ _ _ _ _⟩
  ·simp at e
 ·simp at e
theorem ZlJ {t:TypeId} {a x:AV} {v:Value} (e:ZqK (tk P t) a=some x) (ha:Rep μ h w a v) (ty:TypeId) :
  ∃ u,(Builtin.len_ #[t] ty #[v]).run P w=.ok u w∧Rep μ h w x u:=by
 unfold ZqK at e
 split at e
 ·rename_i s ht
  have:v=.string ⟨s.toArray⟩:=ha
  subst this
  simp only [Option.some.injEq] at e
  subst e
  have hs:(⟨s.toArray⟩:ByteArray).size=s.length:=rfl
  exact ⟨.int .i64 (s.length:Int),by simp [Builtin.len_,run_underlying (Zrb ht),goInt,hs],rfl⟩
 ·rename_i rs ht
  obtain ⟨y,j,hu,_⟩:=W9 ht
  obtain ⟨base,cap,rfl,_⟩:=ha
  simp only [Option.some.injEq] at e
  subst e
  exact ⟨.int .i64 (rs.length:Int),by simp [Builtin.len_,run_underlying hu,goInt],rfl⟩
 ·rename_i rs ht
  obtain ⟨y,j,hu,_⟩:=W9 ht
  obtain ⟨base,rfl,_⟩:=ha
  simp only [Option.some.injEq] at e
  subst e
  exact ⟨.int .i64 (rs.length:Int),by simp [Builtin.len_,run_underlying hu,goInt],rfl⟩
 ·rename_i l n ht
  obtain ⟨y,j,hu,_⟩:=W9 ht
  simp only [Option.some.injEq] at e
  subst e
  obtain ⟨z,rs,wr,base,cap,hl,_,rfl,hv⟩:=ha
  exact ⟨.int .i64 (n:Int),by simp [Builtin.len_,run_underlying hu,goInt],rfl⟩
 ·rename_i ht
  obtain ⟨y,j,hu,_⟩:=W9 ht
  have:v=.slice none 0 0:=ha
  subst this
  simp only [Option.some.injEq] at e
  subst e
  exact ⟨.int .i64 0,by simp [Builtin.len_,run_underlying hu,goInt],rfl⟩
 ·rename_i b ht
  obtain ⟨y,j,hu,_⟩:=W9 ht
  obtain ⟨base,cap,rfl,_⟩:=ha
  simp only [Option.some.injEq] at e
  subst e
  exact ⟨.int .i64 0,by simp [Builtin.len_,run_underlying hu,goInt],rfl⟩
 ·rename_i t' l n ht
  obtain ⟨y,j,hu,_⟩:=W9 ht
  simp only [Option.some.injEq] at e
  subst e
  obtain ⟨z,rs,wr,base,cap,hl,_,rfl,hv⟩:=ha
  exact ⟨.int .i64 (n:Int),by simp [Builtin.len_,run_underlying hu,goInt],rfl⟩
 ·simp at e
theorem ZlK {t:TypeId} {a x:AV} {v:Value} (e:Zrg (tk P t) a=some x) (ha:Rep μ h w a v) (ty:TypeId) :
  ∃ u,(Builtin.cap_ #[t] ty #[v]).run P w=.ok u w∧Rep μ h w x u:=by
 unfold Zrg at e
 split at e
 ·rename_i ht
  obtain ⟨y,j,hu,_⟩:=W9 ht
  have:v=.slice none 0 0:=ha
  subst this
  simp only [Option.some.injEq] at e
  subst e
  exact ⟨.int .i64 0,by simp [Builtin.cap_,run_underlying hu,goInt],rfl⟩
 ·simp at e
theorem ZeO:∀ (r:List AV) (vs:List Value) (k:IntKind) (x:Int) (a:AV),ZkM k x r=some a→RepL μ h w r vs →
  ∃ u,(vs.foldlM Builtin.min2 (.int k x)).run P w=.ok u w∧Rep μ h w a u
 | [],vs,k,x,a,e,hr=>by
  have:vs=[]:=hr
  subst this
  simp only [ZkM,Option.some.injEq] at e
  subst e
  exact ⟨.int k x,rfl,rfl⟩
 | b::r,vs,k,x,a,e,hr=>by
  obtain ⟨v,vr,rfl,h1,h2⟩:=hr
  cases b with
  | int k' y =>
   have:v=.int k' y:=h1
   subst this
   simp only [ZkM] at e
   obtain ⟨u,h3,h4⟩:=ZeO r vr k _ a e h2
   exact ⟨u,by simpa [Builtin.min2] using h3,h4⟩
  | _=>simp [ZkM] at e
theorem Ze6:∀ (r:List AV) (vs:List Value) (k:IntKind) (x:Int) (a:AV),ZkC k x r=some a→RepL μ h w r vs →
  ∃ u,(vs.foldlM Builtin.max2 (.int k x)).run P w=.ok u w∧Rep μ h w a u
 | [],vs,k,x,a,e,hr=>by
  have:vs=[]:=hr
  subst this
  simp only [ZkC,Option.some.injEq] at e
  subst e
  exact ⟨.int k x,rfl,rfl⟩
 | b::r,vs,k,x,a,e,hr=>by
  obtain ⟨v,vr,rfl,h1,h2⟩:=hr
  cases b with
  | int k' y =>
   have:v=.int k' y:=h1
   subst this
   simp only [ZkC] at e
   obtain ⟨u,h3,h4⟩:=Ze6 r vr k _ a e h2
   exact ⟨u,by simpa [Builtin.max2] using h3,h4⟩
  | _=>simp [ZkC] at e
theorem Zkz {l:List AV} {vs:List Value} {a:AV} (e:Zqg l=some a) (hr:RepL μ h w l vs) (at_:Array TypeId) (ty:TypeId) :
  ∃ u,(Builtin.min_ at_ ty vs.toArray).run P w=.ok u w∧Rep μ h w a u:=by
 cases l with
 | nil=>simp [Zqg] at e
 | cons b r =>
  obtain ⟨v,vr,rfl,h1,h2⟩:=hr
  cases b with
  | int k y =>
   have:v=.int k y:=h1
   subst this
   obtain ⟨u,h3,h4⟩:=ZeO (P:=P) r vr k y a e h2
   exact ⟨u,by simpa [Builtin.min_] using h3,h4⟩
  | _=>simp [Zqg] at e
theorem Zk1 {l:List AV} {vs:List Value} {a:AV} (e:ZqZ l=some a) (hr:RepL μ h w l vs) (at_:Array TypeId) (ty:TypeId) :
  ∃ u,(Builtin.max_ at_ ty vs.toArray).run P w=.ok u w∧Rep μ h w a u:=by
 cases l with
 | nil=>simp [ZqZ] at e
 | cons b r =>
  obtain ⟨v,vr,rfl,h1,h2⟩:=hr
  cases b with
  | int k y =>
   have:v=.int k y:=h1
   subst this
   obtain ⟨u,h3,h4⟩:=Ze6 (P:=P) r vr k y a e h2
   exact ⟨u,by simpa [Builtin.max_] using h3,h4⟩
  | _=>simp [ZqZ] at e
theorem Zd0 (op:BinOp) (t:TypeId) (x y:Operand) (k k':IntKind) (a b:Int):(eqGuard op t x y (.int k a) (.int k' b)).run P w=.ok () w:=by
 cases op<;>simp [eqGuard]
theorem Zi3 (op:BinOp) (t:TypeId) (x y:Operand) (a b:ByteArray):(eqGuard op t x y (.string a) (.string b)).run P w=.ok () w:=by
 cases op<;>simp [eqGuard]
theorem Zla {op:BinOp} {t:TypeId} {k:IntKind} {a b:Int} {x:AV} (e:Ztk op k a b=some x) :
  ∃ u,(binOp op t (.int k a) (.int k b)).run P w=.ok u w∧Rep μ h w x u:=by
 cases op<;>simp only [Ztk,reduceCtorEq,Option.some.injEq] at e
 case add=>subst e;exact ⟨_,by simp [binOp,Op.intArith];rfl,rfl⟩
 case sub=>subst e;exact ⟨_,by simp [binOp,Op.intArith];rfl,rfl⟩
 case mul=>subst e;exact ⟨_,by simp [binOp,Op.intArith];rfl,rfl⟩
 case quo =>
  split at e
  ·simp at e
  ·rename_i hb
   simp only [Option.some.injEq] at e
   subst e
   exact ⟨_,by simp [binOp,Op.intDiv,hb];rfl,rfl⟩
 case rem =>
  split at e
  ·simp at e
  ·rename_i hb
   simp only [Option.some.injEq] at e
   subst e
   exact ⟨_,by simp [binOp,Op.intDiv,hb],rfl⟩
 case eql=>subst e;exact ⟨_,by simp [binOp,Op.intCmp],rfl⟩
 case neq=>subst e;exact ⟨_,by simp [binOp,Op.intCmp],rfl⟩
 case lss=>subst e;exact ⟨_,by simp [binOp,Op.intCmp],rfl⟩
 case leq=>subst e;exact ⟨_,by simp [binOp,Op.intCmp],rfl⟩
 case gtr=>subst e;exact ⟨_,by simp [binOp,Op.intCmp],rfl⟩
 case geq=>subst e;exact ⟨_,by simp [binOp,Op.intCmp],rfl⟩
 case shl =>
  split at e
  ·simp at e
  ·rename_i hb
   simp only [Option.some.injEq] at e
   subst e
   exact ⟨_,by simp [binOp,Op.shift,hb];rfl,rfl⟩
 case shr =>
  split at e
  ·simp at e
  ·rename_i hb
   simp only [Option.some.injEq] at e
   subst e
   exact ⟨_,by simp [binOp,Op.shift,hb];rfl,rfl⟩
 case and=>subst e;exact ⟨_,by simp [binOp,Op.intBits];rfl,rfl⟩
 case or=>subst e;exact ⟨_,by simp [binOp,Op.intBits];rfl,rfl⟩
 case xor=>subst e;exact ⟨_,by simp [binOp,Op.intBits];rfl,rfl⟩
theorem Zib {op:BinOp} {t:TypeId} {k k':IntKind} {a b:Int} {x:AV} (e:Zhn op k a b=some x) :
  ∃ u,(binOp op t (.int k a) (.int k' b)).run P w=.ok u w∧Rep μ h w x u:=by
 cases op<;>simp only [Zhn,reduceCtorEq] at e
 case shl =>
  split at e
  ·simp at e
  ·rename_i hb
   simp only [Option.some.injEq] at e
   subst e
   exact ⟨_,by simp [binOp,Op.shift,hb];rfl,rfl⟩
 case shr =>
  split at e
  ·simp at e
  ·rename_i hb
   simp only [Option.some.injEq] at e
   subst e
   exact ⟨_,by simp [binOp,Op.shift,hb];rfl,rfl⟩
theorem ZkU {op:BinOp} {t:TypeId} {a b:List UInt8} {x:AV} (e:Zsm op a b=some x) :
  ∃ u,(binOp op t (.string ⟨a.toArray⟩) (.string ⟨b.toArray⟩)).run P w=.ok u w∧Rep μ h w x u:=by
 have ha:(⟨a.toArray⟩:ByteArray).size=a.length:=rfl
 have hb:(⟨b.toArray⟩:ByteArray).size=b.length:=rfl
 cases op<;>simp only [Zsm,reduceCtorEq,Option.some.injEq] at e
 case add =>
  split at e
  ·rename_i hl
   simp only [Option.some.injEq] at e
   subst e
   have hm:¬(((a.length+b.length:Nat):Int) > IntKind.i64.max):=by
    have:IntKind.i64.max=9223372036854775807:=by decide
    rw [this]
    simp only [XT] at hl
    omega
   refine ⟨.string ((⟨a.toArray⟩:ByteArray)++⟨b.toArray⟩),?_,?_⟩
   ·simp only [binOp,Op.stringOp,ha,hb,if_neg hm,Sem.run_pure]
   ·show _=_
    have e1:(⟨a.toArray⟩:ByteArray)++⟨b.toArray⟩=⟨(a++b).toArray⟩:=by
     apply ByteArray.ext
     rw [ByteArray.data_append]
     apply Array.ext'
     simp
    rw [e1]
  ·simp at e
 case eql=>subst e;exact ⟨_,by simp [binOp,Op.stringOp],rfl⟩
 case neq=>subst e;exact ⟨_,by simp [binOp,Op.stringOp],rfl⟩
 case lss=>subst e;exact ⟨_,by simp [binOp,Op.stringOp],rfl⟩
 case leq=>subst e;exact ⟨_,by simp [binOp,Op.stringOp],rfl⟩
 case gtr=>subst e;exact ⟨_,by simp [binOp,Op.stringOp],rfl⟩
 case geq=>subst e;exact ⟨_,by simp [binOp,Op.stringOp],rfl⟩
theorem ZvH {t:TypeId} (e:Zff P t=some .int):∃ k,P.underlying t=some (.int k):=by
 unfold Zff at e;split at e<;>simp_all
theorem Zsd {t:TypeId} (e:Zff P t=some .bool):P.underlying t=some .bool:=by
 unfold Zff at e;split at e<;>simp_all
theorem Zur {t:TypeId} (e:Zff P t=some .str):P.underlying t=some .string:=by
 unfold Zff at e;split at e<;>simp_all
theorem Zca {t:TypeId} {k:FK} (e:Zff P t=some k):(isAgg t).run P w=.ok false w:=by
 unfold Zff at e;split at e<;>simp_all [isAgg,underlying]
theorem ZcJ {t:TypeId} {k:FK} {a b:AV} {r:Bool} {va vb:Value} (d:Nat) (hk:Zff P t=some k) (e:ZeI k a b=some r) (ha:Rep μ h w a va) (hb:Rep μ h w b vb) :
  (Op.equalIn (d+1) t va vb).run P w=.ok r w:=by
 unfold ZeI at e
 split at e
 ·rename_i k1 x k2 y
  obtain ⟨k0,hu⟩:=ZvH hk
  have e1:va=.int k1 x:=ha
  have e2:vb=.int k2 y:=hb
  split at e
  ·rename_i hkk
   subst hkk e1 e2
   simp only [Option.some.injEq] at e
   subst e
   exact run_equalIn_int w d t k1 k0 x y hu
  ·simp at e
 ·rename_i x y
  have e1:va=.bool x:=ha
  have e2:vb=.bool y:=hb
  subst e1 e2
  simp only [Option.some.injEq] at e
  subst e
  exact run_equalIn_bool' w d t x y (Zsd hk)
 ·rename_i x y
  have e1:va=.string ⟨x.toArray⟩:=ha
  have e2:vb=.string ⟨y.toArray⟩:=hb
  subst e1 e2
  simp only [Option.some.injEq] at e
  subst e
  rw [run_equalIn_string w d t _ _ (Zur hk)]
  simp
 ·simp at e
theorem Zav (d:Nat) (xs ys:List Value):∀ (fs:List Field) (n:Nat) (ks:List FK) (a b:List AV) (r:Bool),WX P n fs=some ks→Y1 ks a b=some r →
  RepL μ h w a (xs.drop n)→RepL μ h w b (ys.drop n)→(Op.eqFields (d+1) xs.toArray ys.toArray fs).run P w=.ok r w
 | [],n,ks,a,b,r,hf,e,_,_=>by
  simp only [WX,Option.some.injEq] at hf
  subst hf
  cases a<;>cases b<;>simp [Y1] at e
  subst e
  simp [Op.eqFields]
 | f::fs,n,ks,a,b,r,hf,e,ha,hb=>by
  simp only [WX] at hf
  split at hf
  ·rename_i hc
   split at hf
   ·rename_i k hk
    split at hf
    ·rename_i ks' hks
     simp only [Option.some.injEq] at hf
     subst hf
     cases a with
     | nil=>simp [Y1] at e
     | cons a0 a =>
      cases b with
      | nil=>simp [Y1] at e
      | cons b0 b =>
       simp only [Y1] at e
       split at e
       ·rename_i x hx
        split at e
        ·rename_i y hy
         simp only [Option.some.injEq] at e
         obtain ⟨va,xr,h1,h2,h3⟩:=ha
         obtain ⟨vb,yr,h4,h5,h6⟩:=hb
         have hxn:xs[n]? = some va:=by
          have:=congrArg (fun l=>l[0]?) h1
          simpa using this
         have hyn:ys[n]? = some vb:=by
          have:=congrArg (fun l=>l[0]?) h4
          simpa using this
         have hxd:xs.drop (n+1)=xr:=by
          rw [←List.drop_drop,h1];rfl
         have hyd:ys.drop (n+1)=yr:=by
          rw [←List.drop_drop,h4];rfl
         have ih:=Zav d xs ys fs (n+1) ks' a b y hks hy (by rw [hxd];exact h3) (by rw [hyd];exact h6)
         have hp1:(Go.part f.type xs.toArray f.offset).run P w=.ok va w:=by simp [Go.part,Zca hk,hc.1,hxn]
         have hp2:(Go.part f.type ys.toArray f.offset).run P w=.ok vb w:=by simp [Go.part,Zca hk,hc.1,hyn]
         have he:=ZcJ d hk hx h2 h5
         rw [Op.eqFields,if_pos hc.2]
         simp only [Sem.run_bind,hp1,hp2,he,Result.andThen_ok,Sem.run_ite]
         cases x
         ·simp [←e]
         ·simp [ih,←e]
        ·simp at e
       ·simp at e
    ·simp at hf
   ·simp at hf
  ·simp at hf
theorem Za6:∀ (ks l:List FK) (a b:List AV) (r:Bool),Y1 (ks++l) a b=some r→∃ a1 a2 b1 b2 r1 r2,a=a1++a2∧b=b1++b2∧a1.length=ks.length∧b1.length=ks.length∧Y1 ks a1 b1=some r1∧Y1 l a2 b2=some r2∧r=(r1&&r2)
 | [],l,a,b,r,e=>⟨[],a,[],b,true,r,rfl,rfl,rfl,rfl,rfl,e,by simp⟩
 | k::ks,l,[],b,r,e=>by cases b<;>simp [Y1] at e
 | k::ks,l,a0::a,[],r,e=>by simp [Y1] at e
 | k::ks,l,a0::a,b0::b,r,e=>by
  simp only [List.cons_append,Y1] at e
  split at e
  ·rename_i x hx
   split at e
   ·rename_i y hy
    obtain ⟨a1,a2,b1,b2,r1,r2,rfl,rfl,h3,h4,h5,h6,rfl⟩:=Za6 ks l a b y hy
    refine ⟨a0::a1,a2,b0::b1,b2,x&&r1,r2,rfl,rfl,by simp [h3],by simp [h4],by simp only [Y1,hx,h5],h6,?_⟩
    simp only [Option.some.injEq] at e
    rw [←e,Bool.and_assoc]
   ·simp at e
  ·simp at e
theorem Zb3:∀ (a1 a2:List AV) (vs:List Value),RepL μ h w (a1++a2) vs→∃ v1 v2,vs=v1++v2∧v1.length=a1.length∧RepL μ h w a1 v1∧RepL μ h w a2 v2
 | [],a2,vs,r=>⟨[],vs,rfl,rfl,rfl,r⟩
 | a::a1,a2,vs,r=>by
  obtain ⟨v,vr,rfl,h1,h2⟩:=r
  obtain ⟨v1,v2,rfl,h3,h4,h5⟩:=Zb3 a1 a2 vr h2
  exact ⟨v::v1,v2,rfl,by simp [h3],⟨v,v1,rfl,h1,h4⟩,h5⟩
theorem ZhE {t:TypeId} {ks:List FK} (e:Zit P t=some ks):∃ fs:Array Field,P.underlying t=some (.struct fs)∧sh P t=some (.agg ks.length)∧P.stoodInHeld t=false∧WX P 0 fs.toList=some ks:=by
 unfold Zit at e
 split at e
 ·rename_i fs n hu hs
  split at e
  ·rename_i hc
   split at e
   ·rename_i l hl
    split at e
    ·rename_i hn
     obtain rfl:=Option.some.inj e
     exact ⟨fs,hu,by rw [hn];exact hs,hc,hl⟩
    ·simp at e
   ·simp at e
  ·simp at e
 ·simp at e
theorem Qk (d:Nat) (xs ys:List Value):∀ (fs:List Field) (n:Nat) (ks:List FK) (a b:List AV) (r:Bool),XP P n fs=some ks→Y1 ks a b=some r →
  RepL μ h w a (xs.drop n)→RepL μ h w b (ys.drop n)→(Op.eqFields (d+2) xs.toArray ys.toArray fs).run P w=.ok r w
 | [],n,ks,a,b,r,hf,e,_,_=>by
  simp only [XP,Option.some.injEq] at hf
  subst hf
  cases a<;>cases b<;>simp [Y1] at e
  subst e
  simp [Op.eqFields]
 | f::fs,n,ks,a,b,r,hf,e,ha,hb=>by
  simp only [XP] at hf
  split at hf
  ·rename_i hc
   split at hf
   ·rename_i k hk
    split at hf
    ·rename_i ks' hks
     simp only [Option.some.injEq] at hf
     subst hf
     obtain ⟨a1,a2,b1,b2,x,y,rfl,rfl,l1,l2,hx,hy,rfl⟩:=Za6 [k] ks' a b r e
     obtain ⟨a0,rfl⟩:=List.length_eq_one_iff.1 l1
     obtain ⟨b0,rfl⟩:=List.length_eq_one_iff.1 l2
     obtain ⟨va,xr,h1,h2,h3⟩:=ha
     obtain ⟨vb,yr,h4,h5,h6⟩:=hb
     have hx':ZeI k a0 b0=some x:=by
      simp only [Y1] at hx
      split at hx
      ·rename_i z hz;simpa [hz] using hx
      ·simp at hx
     have hxn:xs[n]? = some va:=by
      have:=congrArg (fun l=>l[0]?) h1
      simpa using this
     have hyn:ys[n]? = some vb:=by
      have:=congrArg (fun l=>l[0]?) h4
      simpa using this
     have hxd:xs.drop (n+1)=xr:=by rw [←List.drop_drop,h1];rfl
     have hyd:ys.drop (n+1)=yr:=by rw [←List.drop_drop,h4];rfl
     have ih:=Qk d xs ys fs (n+1) ks' a2 b2 y hks hy (by rw [hxd];exact h3) (by rw [hyd];exact h6)
     have hp1:(Go.part f.type xs.toArray f.offset).run P w=.ok va w:=by simp [Go.part,Zca hk,hc.1,hxn]
     have hp2:(Go.part f.type ys.toArray f.offset).run P w=.ok vb w:=by simp [Go.part,Zca hk,hc.1,hyn]
     have he:=ZcJ (d+1) hk hx' h2 h5
     rw [Op.eqFields,if_pos hc.2]
     simp only [Sem.run_bind,hp1,hp2,he,Result.andThen_ok,Sem.run_ite]
     cases x
     ·simp
     ·simp [ih]
    ·simp at hf
   ·split at hf
    ·rename_i l hl
     split at hf
     ·rename_i ks' hks
      simp only [Option.some.injEq] at hf
      subst hf
      obtain ⟨gs,hu,hsh,hst,hfl⟩:=ZhE hl
      obtain ⟨a1,a2,b1,b2,x,y,rfl,rfl,l1,l2,hx,hy,rfl⟩:=Za6 l ks' a b r e
      obtain ⟨v1,v2,h1,n1,h2,h3⟩:=Zb3 a1 a2 _ ha
      obtain ⟨u1,u2,h4,n2,h5,h6⟩:=Zb3 b1 b2 _ hb
      have hxd:xs.drop (n+l.length)=v2:=by rw [←List.drop_drop,h1,List.drop_left' (by omega)]
      have hyd:ys.drop (n+l.length)=u2:=by rw [←List.drop_drop,h4,List.drop_left' (by omega)]
      have ih:=Qk d xs ys fs (n+l.length) ks' a2 b2 y hks hy (by rw [hxd];exact h3) (by rw [hyd];exact h6)
      obtain ⟨g1,g2⟩:=ZlL (P:=P) (w:=w) hsh
      have ex1:xs.toArray.extract n (n+l.length)=v1.toArray:=by
       apply Array.ext'
       simp only [List.extract_toArray,List.extract_eq_take_drop,Nat.add_sub_cancel_left]
       rw [h1,List.take_left' (by omega)]
      have ex2:ys.toArray.extract n (n+l.length)=u1.toArray:=by
       apply Array.ext'
       simp only [List.extract_toArray,List.extract_eq_take_drop,Nat.add_sub_cancel_left]
       rw [h4,List.take_left' (by omega)]
      have hp1:(Go.part f.type xs.toArray f.offset).run P w=.ok (.agg v1.toArray) w:=by
       simp only [Go.part,Sem.run_bind,Result.andThen_ok,g1,if_true,g2,Sem.run_pure,hc.1,ex1]
      have hp2:(Go.part f.type ys.toArray f.offset).run P w=.ok (.agg u1.toArray) w:=by
       simp only [Go.part,Sem.run_bind,Result.andThen_ok,g1,if_true,g2,Sem.run_pure,hc.1,ex2]
      have hfo:P.fieldsOf f.type=gs:=by unfold Program.fieldsOf;rw [hu]
      have he:(Op.equalIn (d+2) f.type (.agg v1.toArray) (.agg u1.toArray)).run P w=.ok x w:=by
       rw [run_equalIn_agg (P:=P) w (d+1) f.type _ _ (by rw [hfo];exact hu) hst,hfo]
       exact Zav d v1 u1 gs.toList 0 l a1 b1 x hfl hx (by simpa using h2) (by simpa using h5)
      rw [Op.eqFields,if_pos hc.2]
      simp only [Sem.run_bind,hp1,hp2,he,Result.andThen_ok,Sem.run_ite]
      cases x
      ·simp
      ·simp [ih]
     ·simp at hf
    ·simp at hf
  ·simp at hf
theorem Znj {t:TypeId} {ks:List FK} (e:flat P t=some ks):∃ fs:Array Field,P.underlying t=some (.struct fs)∧P.stoodInHeld t=false∧P.eqGuardType P.depth t=false∧XP P 0 fs.toList=some ks:=by
 unfold flat at e
 split at e
 ·rename_i fs hu
  split at e
  ·rename_i hc
   exact ⟨fs,hu,hc.1,hc.2,e⟩
  ·simp at e
 ·simp at e
theorem Zr9 {t:TypeId}:match ck P t with
  | .bool=>P.underlying t=some .bool
  | .iface=>∃ ms,P.underlying t=some (.interface ms)
  | .ptr=>∃ e,P.underlying t=some (.pointer e)
  | .fn=>∃ a b c,P.underlying t=some (.func a b c)
  | .map=>∃ a b,P.underlying t=some (.map a b)
  | .flat ks=>flat P t=some ks
  | .no=>True:=by
 unfold ck
 cases hu:P.underlying t with
 | none=>simp only [];cases flat P t<;>simp
 | some d=>cases d<;>simp only []<;>first
  | exact ⟨_,rfl⟩
  | exact ⟨_,_,rfl⟩
  | exact ⟨_,_,_,rfl⟩
  | rfl
  | (cases flat P t<;>simp)
theorem ZAI (d:Nat) {t:TypeId} {ms} (hu:P.underlying t=some (.interface ms)):(Op.equalIn (d+1) t .nilIface .nilIface).run P w=.ok true w:=by simp [Op.equalIn,run_underlying hu]
theorem ZBc (d:Nat) {t:TypeId} {ms} (hu:P.underlying t=some (.interface ms)) (u:TypeId) (x:Value):(Op.equalIn (d+1) t .nilIface (.iface u x)).run P w=.ok false w:=by simp [Op.equalIn,run_underlying hu]
theorem ZAL (d:Nat) {t:TypeId} {ms} (hu:P.underlying t=some (.interface ms)) (u:TypeId) (x:Value):(Op.equalIn (d+1) t (.iface u x) .nilIface).run P w=.ok false w:=by simp [Op.equalIn,run_underlying hu]
theorem ZzX (d:Nat) {t e:TypeId} (hu:P.underlying t=some (.pointer e)):(Op.equalIn (d+1) t (.pointer none) (.pointer none)).run P w=.ok true w:=by simp [Op.equalIn,run_underlying hu]
theorem ZAq (d:Nat) {t e:TypeId} (hu:P.underlying t=some (.pointer e)) (a:Addr):(Op.equalIn (d+1) t (.pointer none) (.pointer (some a))).run P w=.ok false w:=by simp [Op.equalIn,run_underlying hu]
theorem ZlU (d:Nat) {t e:TypeId} (hu:P.underlying t=some (.pointer e)) (a:Addr):(Op.equalIn (d+1) t (.pointer (some a)) (.pointer none)).run P w=.ok false w:=by simp [Op.equalIn,run_underlying hu]
theorem Zz8 (d:Nat) {t:TypeId} {x y z} (hu:P.underlying t=some (.func x y z)):(Op.equalIn (d+1) t .nilFunc .nilFunc).run P w=.ok true w:=by simp [Op.equalIn,run_underlying hu]
theorem Ztu (d:Nat) {t:TypeId} {x y z} (hu:P.underlying t=some (.func x y z)) (f:Fn) (a b:Array Value):(Op.equalIn (d+1) t (.func f a b) .nilFunc).run P w=.ok false w:=by simp [Op.equalIn,run_underlying hu]
theorem ZCb (d:Nat) {t:TypeId} {x y z} (hu:P.underlying t=some (.func x y z)) (f:Fn) (a b:Array Value):(Op.equalIn (d+1) t .nilFunc (.func f a b)).run P w=.ok false w:=by simp [Op.equalIn,run_underlying hu]
theorem ZzQ (d:Nat) {t:TypeId} {x y} (hu:P.underlying t=some (.map x y)):(Op.equalIn (d+1) t (.map none) (.map none)).run P w=.ok true w:=by simp [Op.equalIn,run_underlying hu]
theorem ZAP (d:Nat) {t:TypeId} {x y} (hu:P.underlying t=some (.map x y)) (b:Nat):(Op.equalIn (d+1) t (.map (some b)) (.map none)).run P w=.ok false w:=by simp [Op.equalIn,run_underlying hu]
theorem Xa {t:TypeId} {va vb:Value} {r:Bool} (h1:binOp .eql t va vb=(do pure (.bool (←Op.equal t va vb)))) (h2:(Op.equalIn (9999+1) t va vb).run P w=.ok r w):∀ z,z=r→(binOp .eql t va vb).run P w=.ok (.bool z) w:=by
 rintro z rfl
 rw [h1]
 simp only [Op.equal,Op.maxDepth,Sem.run_bind]
 rw [h2];rfl
theorem Y8 {t:TypeId} {va vb:Value} {r:Bool} (h1:binOp .neq t va vb=(do pure (.bool (!(←Op.equal t va vb))))) (h2:(Op.equalIn (9999+1) t va vb).run P w=.ok r w):(binOp .neq t va vb).run P w=.ok (.bool (!r)) w:=by
 rw [h1]
 simp only [Op.equal,Op.maxDepth,Sem.run_bind]
 rw [h2];rfl
theorem ZgD {t:TypeId} {kc:Bool} {x y:Operand} {a b:AV} {r:Bool} {va vb:Value} (op:BinOp) (hkc:kc=(Wx x||Wx y)) (e:eqV kc (ck P t) a b=some r) (ha:Rep μ h w a va) (hb:Rep μ h w b vb) :
  (eqGuard op t x y va vb).run P w=.ok () w∧(∀ z,z=r→(binOp .eql t va vb).run P w=.ok (.bool z) w)∧(binOp .neq t va vb).run P w=.ok (.bool (!r)) w:=by
 have hs:=Zr9 (P:=P) (t:=t)
 unfold eqV at e
 split at e
 ·rename_i p q hck
  rw [hck] at hs
  have e1:va=.bool p:=ha
  have e2:vb=.bool q:=hb
  subst e1 e2
  simp only [Option.some.injEq] at e
  subst e
  refine ⟨by cases op<;>simp [eqGuard],?_,?_⟩
  ·exact Xa rfl (run_equalIn_bool' w 9999 t p q hs)
  ·exact Y8 rfl (run_equalIn_bool' w 9999 t p q hs)
 ·rename_i ks p q hck
  rw [hck] at hs
  obtain ⟨fs,hu,h1,h2,h3⟩:=Znj hs
  obtain ⟨xs,rfl,hxs⟩:=ha
  obtain ⟨ys,rfl,hys⟩:=hb
  have hfo:P.fieldsOf t=fs:=by unfold Program.fieldsOf;rw [hu]
  have he:=run_equalIn_agg (P:=P) w 9999 t xs.toArray ys.toArray (by rw [hfo];exact hu) h1
  rw [hfo,Qk (P:=P) 9997 xs ys fs.toList 0 ks p q r h3 e (by simpa using hxs) (by simpa using hys)] at he
  refine ⟨run_eqGuard_agg w op t x y _ _ h2,?_,?_⟩
  ·rintro z rfl
   rw [run_eql_struct,he];rfl
  ·rw [run_neq_struct,he];rfl
 ·rename_i hck
  rw [hck] at hs
  obtain ⟨ms,hu⟩:=hs
  have e1:va=.nilIface:=ha
  have e2:vb=.nilIface:=hb
  subst e1 e2
  split at e
  ·rename_i hk
   simp only [Option.some.injEq] at e
   subst e
   have he:=ZAI (P:=P) (w:=w) 9999 hu
   refine ⟨?_,?_,?_⟩
   ·rw [hkc] at hk
    cases x<;>cases y<;>simp [Wx] at hk<;>cases op<;>simp [eqGuard]
   ·exact Xa rfl he
   ·exact Y8 rfl he
  ·simp at e
 ·rename_i u q hck
  rw [hck] at hs
  obtain ⟨ms,hu⟩:=hs
  have e1:va=.nilIface:=ha
  obtain ⟨x',rfl,_⟩:=hb
  subst e1
  simp only [Option.some.injEq] at e
  subst e
  have he:=ZBc (P:=P) (w:=w) 9999 hu u x'
  exact ⟨by cases op<;>simp [eqGuard],Xa rfl he,Y8 rfl he⟩
 ·rename_i u q hck
  rw [hck] at hs
  obtain ⟨ms,hu⟩:=hs
  have e1:vb=.nilIface:=hb
  obtain ⟨x',rfl,_⟩:=ha
  subst e1
  simp only [Option.some.injEq] at e
  subst e
  have he:=ZAL (P:=P) (w:=w) 9999 hu u x'
  exact ⟨by cases op<;>simp [eqGuard],Xa rfl he,Y8 rfl he⟩
 ·rename_i hck
  rw [hck] at hs
  obtain ⟨u,hu⟩:=hs
  have e1:va=.pointer none:=ha
  have e2:vb=.pointer none:=hb
  subst e1 e2
  simp only [Option.some.injEq] at e
  subst e
  have he:=ZzX (P:=P) (w:=w) 9999 hu
  exact ⟨by cases op<;>simp [eqGuard],Xa rfl he,Y8 rfl he⟩
 ·rename_i l o hck
  rw [hck] at hs
  obtain ⟨u,hu⟩:=hs
  have e1:va=.pointer none:=ha
  obtain ⟨_,b,_,_,rfl⟩:=hb
  subst e1
  simp only [Option.some.injEq] at e
  subst e
  have he:=ZAq (P:=P) (w:=w) 9999 hu ⟨b,o,none⟩
  exact ⟨by cases op<;>simp [eqGuard],Xa rfl he,Y8 rfl he⟩
 ·rename_i l o hck
  rw [hck] at hs
  obtain ⟨u,hu⟩:=hs
  have e1:vb=.pointer none:=hb
  obtain ⟨_,b,_,_,rfl⟩:=ha
  subst e1
  simp only [Option.some.injEq] at e
  subst e
  have he:=ZlU (P:=P) (w:=w) 9999 hu ⟨b,o,none⟩
  exact ⟨by cases op<;>simp [eqGuard],Xa rfl he,Y8 rfl he⟩
 ·rename_i l n i o hck
  rw [hck] at hs
  obtain ⟨u,hu⟩:=hs
  have e1:vb=.pointer none:=hb
  obtain ⟨z,rs,wr,b,_,_,rfl,_⟩:=ha
  subst e1
  simp only [Option.some.injEq] at e
  subst e
  have he:=ZlU (P:=P) (w:=w) 9999 hu ⟨b,i*z+o,none⟩
  exact ⟨by cases op<;>simp [eqGuard],Xa rfl he,Y8 rfl he⟩
 ·rename_i row o hck
  rw [hck] at hs
  obtain ⟨u,hu⟩:=hs
  have e1:vb=.pointer none:=hb
  obtain ⟨b,p,rfl,_⟩:=ha
  subst e1
  simp only [Option.some.injEq] at e
  subst e
  have he:=ZlU (P:=P) (w:=w) 9999 hu ⟨b,p+o,none⟩
  exact ⟨by cases op<;>simp [eqGuard],Xa rfl he,Y8 rfl he⟩
 ·rename_i t0 l o hck
  rw [hck] at hs
  obtain ⟨u,hu⟩:=hs
  have e1:vb=.pointer none:=hb
  obtain ⟨_,b,_,_,rfl,_⟩:=ha
  subst e1
  simp only [Option.some.injEq] at e
  subst e
  have he:=ZlU (P:=P) (w:=w) 9999 hu ⟨b,o,none⟩
  exact ⟨by cases op<;>simp [eqGuard],Xa rfl he,Y8 rfl he⟩
 ·rename_i hck
  rw [hck] at hs
  obtain ⟨u1,u2,u3,hu⟩:=hs
  have e1:va=.nilFunc:=ha
  have e2:vb=.nilFunc:=hb
  subst e1 e2
  simp only [Option.some.injEq] at e
  subst e
  have he:=Zz8 (P:=P) (w:=w) 9999 hu
  exact ⟨by cases op<;>simp [eqGuard],Xa rfl he,Y8 rfl he⟩
 ·rename_i f cs hck
  rw [hck] at hs
  obtain ⟨u1,u2,u3,hu⟩:=hs
  have e2:vb=.nilFunc:=hb
  obtain ⟨vs,rfl,_⟩:=ha
  subst e2
  simp only [Option.some.injEq] at e
  subst e
  have he:=Ztu (P:=P) (w:=w) 9999 hu (.func f) #[] vs.toArray
  exact ⟨by cases op<;>simp [eqGuard],Xa rfl he,Y8 rfl he⟩
 ·rename_i f cs hck
  rw [hck] at hs
  obtain ⟨u1,u2,u3,hu⟩:=hs
  have e2:vb=.nilFunc:=hb
  obtain ⟨vs,rfl,_⟩:=ha
  subst e2
  simp only [Option.some.injEq] at e
  subst e
  have he:=Ztu (P:=P) (w:=w) 9999 hu (.func f) vs.toArray #[]
  exact ⟨by cases op<;>simp [eqGuard],Xa rfl he,Y8 rfl he⟩
 ·rename_i f cs hck
  rw [hck] at hs
  obtain ⟨u1,u2,u3,hu⟩:=hs
  have e2:va=.nilFunc:=ha
  obtain ⟨vs,rfl,_⟩:=hb
  subst e2
  simp only [Option.some.injEq] at e
  subst e
  have he:=ZCb (P:=P) (w:=w) 9999 hu (.func f) #[] vs.toArray
  exact ⟨by cases op<;>simp [eqGuard],Xa rfl he,Y8 rfl he⟩
 ·rename_i hck
  rw [hck] at hs
  obtain ⟨u1,u2,hu⟩:=hs
  have e1:va=.map none:=ha
  have e2:vb=.map none:=hb
  subst e1 e2
  simp only [Option.some.injEq] at e
  subst e
  have he:=ZzQ (P:=P) (w:=w) 9999 hu
  exact ⟨by cases op<;>simp [eqGuard],Xa rfl he,Y8 rfl he⟩
 ·rename_i l hck
  rw [hck] at hs
  obtain ⟨u1,u2,hu⟩:=hs
  obtain ⟨es,b,_,_,rfl⟩:=ha
  have e2:vb=.map none:=hb
  subst e2
  simp only [Option.some.injEq] at e
  subst e
  have he:=ZAP (P:=P) (w:=w) 9999 hu b
  exact ⟨by cases op<;>simp [eqGuard],Xa rfl he,Y8 rfl he⟩
 ·simp at e
theorem ZkE {t ty:TypeId} {kc:Bool} {x y:Operand} {a b z:AV} {va vb:Value} (op:BinOp) (hkc:kc=(Wx x||Wx y)) (e:Zrt P op t kc a b=some z) (ha:Rep μ h w a va) (hb:Rep μ h w b vb) :
  ∃ u,(do eqGuard op t x y va vb;binOp op t va vb:Sem Value).run P w=.ok u w∧Rep μ h w z u:=by
 unfold Zrt at e
 split at e
 ·rename_i k p k' q
  have e1:va=.int k p:=ha
  have e2:vb=.int k' q:=hb
  subst e1 e2
  split at e
  ·rename_i hk
   subst hk
   obtain ⟨u,h1,h2⟩:=Zla (P:=P) (t:=t) (μ:=μ) (h:=h) (w:=w) e
   exact ⟨u,by simp [Zd0,h1],h2⟩
  ·obtain ⟨u,h1,h2⟩:=Zib (P:=P) (t:=t) (k':=k') (μ:=μ) (h:=h) (w:=w) e
   exact ⟨u,by simp [Zd0,h1],h2⟩
 ·rename_i p q
  have e1:va=.string ⟨p.toArray⟩:=ha
  have e2:vb=.string ⟨q.toArray⟩:=hb
  subst e1 e2
  obtain ⟨u,h1,h2⟩:=ZkU (P:=P) (t:=t) (μ:=μ) (h:=h) (w:=w) e
  exact ⟨u,by simp [Zi3,h1],h2⟩
 ·unfold Zqe at e
  split at e
  ·cases hr:eqV kc (ck P t) a b with
   | none=>simp [hr,Znv] at e
   | some r =>
    simp only [hr,Znv,Option.some.injEq] at e
    subst e
    obtain ⟨h1,h2,_⟩:=ZgD (P:=P) .eql hkc hr ha hb
    exact ⟨.bool r,by simp [h1,h2 r rfl],rfl⟩
  ·cases hr:eqV kc (ck P t) a b with
   | none=>simp [hr,ZnO] at e
   | some r =>
    simp only [hr,ZnO,Option.some.injEq] at e
    subst e
    obtain ⟨h1,_,h3⟩:=ZgD (P:=P) .neq hkc hr ha hb
    exact ⟨.bool (!r),by simp [h1,h3],rfl⟩
  ·simp at e
theorem ZtO (d:Nat) {t e:TypeId} (hu:P.underlying t=some (.slice e)) (base:Option Addr) (n c:Nat):(Op.equalIn (d+1) t (.slice base n c) (.slice none 0 0)).run P w=.ok base.isNone w:=by
 cases base<;>simp [Op.equalIn,run_underlying hu]
theorem Ze0 {a:AV} {b:Bool} {v:Value} {hc:Zd} (hh:hc=h∨hc=[]) (e:Zf2 hc a=some b) (ha:Rep μ h w a v):∃ base n c,v=.slice base n c∧base.isNone=b:=by
 unfold Zf2 at e
 split at e
 ·simp only [Option.some.injEq] at e
  subst e
  have:v=.slice none 0 0:=ha
  exact ⟨none,0,0,this,rfl⟩
 ·simp only [Option.some.injEq] at e
  subst e
  obtain ⟨base,cap,h1,h2⟩:=ha
  exact ⟨base,0,cap,h1,h2⟩
 ·split at e
  ·simp at e
  ·rename_i rs hne
   simp only [Option.some.injEq] at e
   subst e
   obtain ⟨base,cap,rfl,_,hr⟩:=ha
   rcases hr with rfl | ⟨b,o,z,rfl,_⟩
   ·simp at hne
   ·exact ⟨_,_,_,rfl,rfl⟩
 ·split at e
  ·simp at e
  ·rename_i rs hne
   simp only [Option.some.injEq] at e
   subst e
   obtain ⟨base,rfl,hr⟩:=ha
   rcases hr with rfl | ⟨b,o,z,rfl,_⟩
   ·simp at hne
   ·exact ⟨_,_,_,rfl,rfl⟩
 ·rename_i l n
  rcases hh with rfl | rfl
  case inr=>simp at e
  split at e
  ·rename_i z rs wr hl
   split at e
   ·rename_i hn
    simp only [Option.some.injEq] at e
    subst e
    obtain ⟨z',rs',wr',base,cap,hl',_,rfl,hv⟩:=ha
    rw [hl] at hl'
    simp only [Option.some.injEq,Blk.rows.injEq] at hl'
    obtain ⟨rfl,rfl,rfl⟩:=hl'
    obtain ⟨h1,_,h3⟩:=hv hn.1.symm
    rcases h3 with ⟨rfl,h4⟩ | ⟨b,vs,T,rfl,_⟩
    ·omega
    ·exact ⟨_,_,_,rfl,rfl⟩
   ·simp at e
  ·simp at e
 ·simp at e
theorem ZjT {t ty:TypeId} {x y:Operand} {a b z:AV} {va vb:Value} {hc:Zd} (hh:hc=h∨hc=[]) (op:BinOp) (e:ZeX P op t hc a b=some z) (ha:Rep μ h w a va) (hb:Rep μ h w b vb) :
  ∃ u,(do eqGuard op t x y va vb;binOp op t va vb:Sem Value).run P w=.ok u w∧Rep μ h w z u:=by
 unfold ZeX at e
 split at e
 ·split at e
  ·rename_i hsl
   have hvb:vb=.slice none 0 0:=hb
   subst hvb
   unfold QT at hsl
   split at hsl
   ·rename_i el hu
    unfold Zqe at e
    split at e
    ·cases hr:Zf2 hc a with
     | none=>simp [hr,Znv] at e
     | some r =>
      simp only [hr,Znv,Option.some.injEq] at e
      subst e
      obtain ⟨base,n,c,rfl,hbn⟩:=Ze0 hh hr ha
      have he:=ZtO (P:=P) (w:=w) 9999 hu base n c
      rw [hbn] at he
      have hg:(eqGuard .eql t x y (.slice base n c) (.slice none 0 0)).run P w=.ok () w:=by simp [eqGuard]
      exact ⟨.bool r,by simp only [Sem.run_bind,hg,Result.andThen_ok];exact Xa rfl he r rfl,rfl⟩
    ·cases hr:Zf2 hc a with
     | none=>simp [hr,ZnO] at e
     | some r =>
      simp only [hr,ZnO,Option.some.injEq] at e
      subst e
      obtain ⟨base,n,c,rfl,hbn⟩:=Ze0 hh hr ha
      have he:=ZtO (P:=P) (w:=w) 9999 hu base n c
      rw [hbn] at he
      have hg:(eqGuard .neq t x y (.slice base n c) (.slice none 0 0)).run P w=.ok () w:=by simp [eqGuard]
      exact ⟨.bool (!r),by simp only [Sem.run_bind,hg,Result.andThen_ok];exact Y8 rfl he,rfl⟩
    ·simp at e
   ·simp at hsl
  ·simp at e
 ·simp at e
theorem ZnE {op:UnOp} {a x:AV} {v:Value} (e:aUn op a=some x) (ha:Rep μ h w a v):∃ u,(Op.unary op v).run P w=.ok u w∧Rep μ h w x u:=by
 unfold aUn at e
 split at e
 ·rename_i b
  have:v=.bool b:=ha
  subst this
  simp only [Option.some.injEq] at e
  subst e
  exact ⟨_,by simp [Op.unary],rfl⟩
 ·rename_i k n
  have:v=.int k n:=ha
  subst this
  simp only [Option.some.injEq] at e
  subst e
  exact ⟨.int k (k.wrap (0 - n)),by simp [Op.unary,Op.intArith],rfl⟩
 ·simp at e
theorem Ext.alloc (hr:Rel μ h w) (o:Obj):Ext μ h w μ h (w.alloc o) where
 out:=rfl
 still:=rfl
 os:=rfl
 tape:=rfl
 output:=rfl
 size:=by simp
 len:=Nat.le_refl _
 maps:=fun _ es hl=>⟨⟨es,hl⟩,rfl⟩
 keep:=fun b o' v hc hm=>by
  refine ⟨?_,hm⟩
  have hb:b < w.heap.size:=by
   by_cases hb:b < w.heap.size
   ·exact hb
   ·simp [World.cell?,Array.getElem?_eq_none (Nat.le_of_not_lt hb)] at hc
  rw [World.cell?_alloc_lt _ _ _ hb];exact hc
 outside:=fun b hb ho=>⟨by simp only [World.alloc];rw [Array.getElem?_push,if_neg (by omega)],ho⟩
 cells:=fun _ cs hl=>⟨⟨cs,hl⟩,rfl⟩
 rows:=fun _ _ rs wr hl=>⟨rs,wr,hl,Nat.le_refl _,fun _=>rfl⟩
 sizes:=fun b vs T hb=>by
  refine ⟨vs,?_,rfl⟩
  have hlt:=hb.lt
  refine hb.eq ?_
  simp only [World.alloc]
  rw [Array.getElem?_push,if_neg (by omega)]
theorem RowsIn.keep {M M':Nat→Nat→Prop} {w':World} {z:Nat} {rs:List (List AV)} {vs:Array Value} (hk:Zaw M w M' w') (hi:RowsIn M w z rs vs):RowsIn M' w' z rs vs:=by
 intro i row hrow
 obtain ⟨h1,h2,h3⟩:=hi i row hrow
 refine ⟨h1,h2,fun c a ha=>?_⟩
 obtain ⟨v,hv,hp⟩:=h3 c a ha
 exact ⟨v,hv,PRep.keep hk a v hp⟩
theorem RowsN.ext {μ':Mp Bs} {h':Zd} {w':World} {z:Nat} {rs:List (List AV)} {vs:Array Value} (e:Ext μ h w μ' h' w') (hi:RowsN μ h w z rs vs):RowsN μ' h' w' z rs vs:=by
 intro i row hrow
 obtain ⟨h1,h2,h3⟩:=hi i row hrow
 refine ⟨h1,h2,fun c a ha=>?_⟩
 obtain ⟨v,hv,hp⟩:=h3 c a ha
 exact ⟨v,hv,Rep.ext e a v hp⟩
theorem Rel.ext_same {w':World} (hr:Rel μ h w) (e:Ext μ h w μ h w') (hb:∀ l b,l < h.length→μ l=some b→w'.heap[b]? = w.heap[b]?):Rel μ h w' where
 inj:=hr.inj
 apart:=hr.apart
 old:=fun b o ho=>Nat.lt_of_lt_of_le (hr.old b o ho) e.size
 still:=(hr.carry e).1
 base:=(hr.carry e).2
 blk:=fun l k hl=>by
  have hlt:l < h.length:=(List.getElem?_eq_some_iff.1 hl).1
  have:=hr.blk l k hl
  cases k with
  | cells cs =>
   obtain ⟨b,vs,T,h1,h2,h3,h4⟩:=this
   exact ⟨b,vs,T,h1,by rw [hb l b hlt h1];exact h2,h3,RepL.ext e cs vs h4⟩
  | rows z rs wr =>
   rcases this with h0 | ⟨b,vs,T,h1,h2,h3,h4⟩
   ·exact .inl h0
   ·exact .inr ⟨b,vs,T,h1,h2.eq (hb l b hlt h1),h3,h4.ext e⟩
  | hole=>exact this
  | map es =>
   obtain ⟨b,ms,c,h1,h2,h3⟩:=this
   exact ⟨b,ms,c,h1,by rw [hb l b hlt h1];exact h2,h3.keep e.keep⟩
theorem Rel.mapped (hr:Rel μ h w) {l b:Nat} (hl:l < h.length) (hm:μ l=some b):b < w.heap.size:=by
 have:=hr.blk l _ (List.getElem?_eq_getElem hl)
 cases hk:h[l] with
 | cells cs =>
  rw [hk] at this
  obtain ⟨b',vs,T,h1,h2,_⟩:=this
  have e:b'=b:=by rw [hm] at h1;simpa using h1.symm
  subst e
  exact (Array.getElem?_eq_some_iff.1 h2).1
 | rows z rs wr =>
  rw [hk] at this
  rcases this with ⟨_,h0⟩ | ⟨b',vs,T,h1,h2,_⟩
  ·rw [hm] at h0;simp at h0
  ·have e:b'=b:=by rw [hm] at h1;simpa using h1.symm
   subst e
   exact h2.lt
 | hole =>
  rw [hk] at this
  have h0:μ l=none:=this
  rw [hm] at h0;simp at h0
 | map es =>
  rw [hk] at this
  obtain ⟨b',ms,c,h1,h2,_⟩:=this
  have e:b'=b:=by rw [hm] at h1;simpa using h1.symm
  subst e
  exact (Array.getElem?_eq_some_iff.1 h2).1
theorem Rel.alloc (hr:Rel μ h w) (o:Obj):Rel μ h (w.alloc o) :=
 hr.ext_same (Ext.alloc hr o) fun l b hl hm=>by
  have:=hr.mapped hl hm
  simp only [World.alloc]
  rw [Array.getElem?_push,if_neg (by omega)]
theorem Ext.heap_eq {w':World} (h1:w'.heap=w.heap) (h2:w'.os=w.os) (h3:w'.tape=w.tape) (h4:w'.output=w.output):Ext μ h w μ h w' where
 out:=rfl
 still:=rfl
 os:=h2
 tape:=h3
 output:=h4
 size:=by rw [h1];exact Nat.le_refl _
 len:=Nat.le_refl _
 maps:=fun _ es hl=>⟨⟨es,hl⟩,rfl⟩
 keep:=fun b o v hc hm=>⟨by simpa only [World.cell?,h1] using hc,hm⟩
 outside:=fun b _ ho=>⟨by rw [h1],ho⟩
 cells:=fun _ cs hl=>⟨⟨cs,hl⟩,rfl⟩
 rows:=fun _ _ rs wr hl=>⟨rs,wr,hl,Nat.le_refl _,fun _=>rfl⟩
 sizes:=fun b vs T hb=>⟨vs,hb.eq (by rw [h1]),rfl⟩
theorem Rel.heap_eq {w':World} (hr:Rel μ h w) (h1:w'.heap=w.heap) (h2:w'.os=w.os) (h3:w'.tape=w.tape) (h4:w'.output=w.output):Rel μ h w' :=
 hr.ext_same (Ext.heap_eq h1 h2 h3 h4) fun _ _ _ _=>by rw [h1]
def Quiet (P:Program) (μ:Mp Bs) (h:Zd) (w:World) (s:Sem Value) (x:AV):Prop :=
 ∃ u w',s.run P w=.ok u w'∧Rel μ h w'∧Ext μ h w μ h w'∧Rep μ h w' x u
theorem Quiet.of_same (hr:Rel μ h w) {s:Sem Value} {x:AV} (hx:∃ u,s.run P w=.ok u w∧Rep μ h w x u):Quiet P μ h w s x:=by
 obtain ⟨u,h1,h2⟩:=hx
 exact ⟨u,w,h1,hr,Ext.refl _ _ _,h2⟩
theorem Zfs {a x:AV} {v:Value} (e:Zbf a=some x) (ha:Rep μ h w a v):((∃ p,v=.pointer (some p))∨∃ f cs,v=.func (.func f) #[] cs)∧Rep μ h w x v:=by
 unfold Zbf at e
 split at e
 ·rename_i l o
  simp only [Option.some.injEq] at e
  subst e
  obtain ⟨cs,b,h1,h2,rfl⟩:=ha
  exact ⟨.inl ⟨_,rfl⟩,cs,b,h1,h2,rfl⟩
 ·rename_i l n i o
  simp only [Option.some.injEq] at e
  subst e
  obtain ⟨z,rs,wr,b,h1,h2,rfl,h3⟩:=ha
  exact ⟨.inl ⟨_,rfl⟩,z,rs,wr,b,h1,h2,rfl,h3⟩
 ·rename_i r o
  simp only [Option.some.injEq] at e
  subst e
  obtain ⟨b,p,rfl,h1⟩:=ha
  exact ⟨.inl ⟨_,rfl⟩,b,p,rfl,h1⟩
 ·rename_i f c
  simp only [Option.some.injEq] at e
  subst e
  obtain ⟨vs,rfl,h1⟩:=ha
  exact ⟨.inr ⟨f,_,rfl⟩,vs,rfl,h1⟩
 ·rename_i t l o
  simp only [Option.some.injEq] at e
  subst e
  obtain ⟨cs,b,h1,h2,rfl,hh⟩:=ha
  exact ⟨.inl ⟨_,rfl⟩,cs,b,h1,h2,rfl,hh⟩
 ·simp at e
theorem Zjb {t:TypeId} {a x:AV} {v:Value} (e:Zio P t a=some x) (ha:Rep μ h w a v):∃ u,(Instr.makeInterface t v).run P w=.ok u w∧Rep μ h w x u:=by
 unfold Zio at e
 split at e
 ·simp at e
 ·rename_i d hne hu
  simp only [Option.some.injEq] at e
  subst e
  refine ⟨.iface t v,?_,v,rfl,ha⟩
  cases d<;>first
   | exact (hne _ rfl).elim
   | simp [Instr.makeInterface,run_underlying hu]
 ·simp at e
theorem Zco {t:TypeId} {a:AV} (e:zv P t=some a):∃ i z,P.info? t=some i∧i.zero=some z∧a=Xr z∧(zeroValue t).run P w=.ok z w:=by
 unfold zv at e
 split at e
 ·rename_i i hi
  cases hz:i.zero with
  | none=>simp [hz] at e
  | some z =>
   simp only [hz,Option.map_some,Option.some.injEq] at e
   exact ⟨i,z,hi,hz,e.symm,by simp [zeroValue,typeInfo,hi,hz]⟩
 ·simp at e
theorem Zbc (o:Nat):∀ (us:List Value) (k:Nat) (cs:Array Value),o+k+us.length≤cs.size →
  ((us.zipIdx k).foldl (fun cs (x:Value×Nat)=>cs.setIfInBounds (o+x.2) x.1) cs).toList=cs.toList.take (o+k)++us++cs.toList.drop (o+k+us.length)
 | [],k,cs,_=>by simp
 | u::us,k,cs,hl=>by
  simp only [List.length_cons] at hl
  simp only [List.zipIdx_cons,List.foldl_cons]
  rw [Zbc o us (k+1) _ (by simp;omega)]
  have:=list_seg_step cs.toList (o+k) u us (by simp;omega)
  simp only [Array.toList_setIfInBounds,List.length_cons]
  rw [←this]
  simp only [Nat.add_assoc,Nat.add_comm 1]
theorem Xe {a:AV} {v:Value} {cs:List AV} (e:cellsOf a=some cs) (ha:Rep μ h w a v):Zl cs=true∧RepL μ h w cs v.cells.toList:=by
 cases a with
 | agg l =>
  simp only [cellsOf] at e
  split at e
  ·rename_i hs
   simp only [Option.some.injEq] at e
   subst e
   obtain ⟨vs,rfl,hl⟩:=ha
   exact ⟨hs,hl⟩
  ·simp at e
 | tup _=>simp [cellsOf] at e
 | any=>simp [cellsOf] at e
 | int k n=>simp only [cellsOf,Option.some.injEq] at e;subst e;have:v=_:=ha;subst this;exact ⟨rfl,_,_,rfl,rfl,rfl⟩
 | bool b=>simp only [cellsOf,Option.some.injEq] at e;subst e;have:v=_:=ha;subst this;exact ⟨rfl,_,_,rfl,rfl,rfl⟩
 | str s=>simp only [cellsOf,Option.some.injEq] at e;subst e;have:v=_:=ha;subst this;exact ⟨rfl,_,_,rfl,rfl,rfl⟩
 | nilp=>simp only [cellsOf,Option.some.injEq] at e;subst e;have:v=_:=ha;subst this;exact ⟨rfl,_,_,rfl,rfl,rfl⟩
 | nilf=>simp only [cellsOf,Option.some.injEq] at e;subst e;have:v=_:=ha;subst this;exact ⟨rfl,_,_,rfl,rfl,rfl⟩
 | nili=>simp only [cellsOf,Option.some.injEq] at e;subst e;have:v=_:=ha;subst this;exact ⟨rfl,_,_,rfl,rfl,rfl⟩
 | emp _=>simp only [cellsOf,Option.some.injEq] at e;subst e;obtain ⟨b,c,rfl,hh⟩:=ha;exact ⟨rfl,_,_,rfl,⟨b,c,rfl,hh⟩,rfl⟩
 | nilm=>simp only [cellsOf,Option.some.injEq] at e;subst e;have:v=_:=ha;subst this;exact ⟨rfl,_,_,rfl,rfl,rfl⟩
 | nils=>simp only [cellsOf,Option.some.injEq] at e;subst e;have:v=_:=ha;subst this;exact ⟨rfl,_,_,rfl,rfl,rfl⟩
 | rows rs=>simp only [cellsOf,Option.some.injEq] at e;subst e;obtain ⟨b,c,rfl,hh⟩:=ha;exact ⟨rfl,_,_,rfl,⟨b,c,rfl,hh⟩,rfl⟩
 | lit rs=>simp only [cellsOf,Option.some.injEq] at e;subst e;obtain ⟨b,rfl,hh⟩:=ha;exact ⟨rfl,_,_,rfl,⟨b,rfl,hh⟩,rfl⟩
 | rptr r o=>simp only [cellsOf,Option.some.injEq] at e;subst e;obtain ⟨b,c,rfl,hh⟩:=ha;exact ⟨rfl,_,_,rfl,⟨b,c,rfl,hh⟩,rfl⟩
 | fn f cs'=>simp only [cellsOf,Option.some.injEq] at e;subst e;obtain ⟨b,rfl,hh⟩:=ha;exact ⟨rfl,_,_,rfl,⟨b,rfl,hh⟩,rfl⟩
 | bnd f cs'=>simp only [cellsOf,Option.some.injEq] at e;subst e;obtain ⟨b,rfl,hh⟩:=ha;exact ⟨rfl,_,_,rfl,⟨b,rfl,hh⟩,rfl⟩
 | iface t a=>simp only [cellsOf,Option.some.injEq] at e;subst e;obtain ⟨b,rfl,hh⟩:=ha;exact ⟨rfl,_,_,rfl,⟨b,rfl,hh⟩,rfl⟩
 | ptr l o=>simp only [cellsOf,Option.some.injEq] at e;subst e;obtain ⟨b,c,h1,h2,rfl⟩:=ha;exact ⟨rfl,_,_,rfl,⟨b,c,h1,h2,rfl⟩,rfl⟩
 | tptr t l o=>simp only [cellsOf,Option.some.injEq] at e;subst e;obtain ⟨b,c,h1,h2,rfl,hh⟩:=ha;exact ⟨rfl,_,_,rfl,⟨b,c,h1,h2,rfl,hh⟩,rfl⟩
 | town t l n=>simp only [cellsOf,Option.some.injEq] at e;subst e;obtain ⟨z,rs,wr,b,c,h1,h2,rfl,h3⟩:=ha;exact ⟨rfl,_,_,rfl,⟨z,rs,wr,b,c,h1,h2,rfl,h3⟩,rfl⟩
 | mp l=>simp only [cellsOf,Option.some.injEq] at e;subst e;obtain ⟨es,b,h1,h2,rfl⟩:=ha;exact ⟨rfl,_,_,rfl,⟨es,b,h1,h2,rfl⟩,rfl⟩
 | own l n=>simp only [cellsOf,Option.some.injEq] at e;subst e;obtain ⟨z,rs,wr,b,c,h1,h2,rfl,h3⟩:=ha;exact ⟨rfl,_,_,rfl,⟨z,rs,wr,b,c,h1,h2,rfl,h3⟩,rfl⟩
 | optr l n i o=>simp only [cellsOf,Option.some.injEq] at e;subst e;obtain ⟨z,rs,wr,b,h1,h2,rfl,h3⟩:=ha;exact ⟨rfl,_,_,rfl,⟨z,rs,wr,b,h1,h2,rfl,h3⟩,rfl⟩
theorem RepL.len {cs:List AV} {vs:List Value} (r:RepL μ h w cs vs):vs.length=cs.length:=(RepL.at cs vs r).1
theorem RepL.append:∀ {a b:List AV} {va vb:List Value},RepL μ h w a va→RepL μ h w b vb→RepL μ h w (a++b) (va++vb)
 | [],_,va,_,ha,hb=>by
  have:va=[]:=ha
  subst this
  exact hb
 | _::_,_,_,_,ha,hb=>by
  obtain ⟨v,vr,rfl,h1,h2⟩:=ha
  exact ⟨v,_,rfl,h1,RepL.append h2 hb⟩
theorem RepL.take:∀ {a:List AV} {va:List Value} (n:Nat),RepL μ h w a va→RepL μ h w (a.take n) (va.take n)
 | _,_,0,_=>by simp [RepL]
 | [],va,n+1,ha=>by
  have:va=[]:=ha
  subst this
  rfl
 | _::_,_,n+1,ha=>by
  obtain ⟨v,vr,rfl,h1,h2⟩:=ha
  exact ⟨v,_,rfl,h1,RepL.take n h2⟩
theorem RepL.drop:∀ {a:List AV} {va:List Value} (n:Nat),RepL μ h w a va→RepL μ h w (a.drop n) (va.drop n)
 | _,_,0,ha=>by simpa using ha
 | [],va,n+1,ha=>by
  have:va=[]:=ha
  subst this
  rfl
 | _::_,_,n+1,ha=>by
  obtain ⟨v,vr,rfl,h1,h2⟩:=ha
  simpa using RepL.drop n h2
theorem RepL.splice {cs ns:List AV} {vs us:List Value} (o:Nat) (hc:RepL μ h w cs vs) (hn:RepL μ h w ns us):RepL μ h w (splice cs o ns) (vs.take o++us++vs.drop (o+us.length)):=by
 unfold Go.Ab.splice
 rw [hn.len]
 exact ((hc.take o).append hn).append (hc.drop _)
theorem QZ:∀ {a b:List AV},Zl a=true→Zl b=true→Zl (a++b)=true
 | [],_,_,hb=>hb
 | x::a,b,ha,hb=>by
  simp only [Zl,Bool.and_eq_true,List.cons_append] at ha ⊢
  exact ⟨ha.1,QZ ha.2 hb⟩
theorem ZcW:∀ {a:List AV} (n:Nat),Zl a=true→Zl (a.take n)=true
 | _,0,_=>by simp [Zl]
 | [],n+1,_=>rfl
 | x::a,n+1,ha=>by
  simp only [Zl,Bool.and_eq_true,List.take_succ_cons] at ha ⊢
  exact ⟨ha.1,ZcW n ha.2⟩
theorem ZcE:∀ {a:List AV} (n:Nat),Zl a=true→Zl (a.drop n)=true
 | _,0,ha=>by simpa using ha
 | [],n+1,_=>rfl
 | x::a,n+1,ha=>by
  simp only [Zl,Bool.and_eq_true] at ha
  simpa using ZcE n ha.2
theorem ZaJ {cs ns:List AV} (o:Nat) (hc:Zl cs=true) (hn:Zl ns=true):Zl (splice cs o ns)=true :=
 QZ (QZ (ZcW o hc) hn) (ZcE _ hc)
theorem Zah {ev:Operand→AV} {ρ:Operand→Value} (he:XB μ h w ev ρ) (pl pl':Nat→Option (Nat×Nat)) (hp:∀ i,pl' i=pl i):∀ (parts:List (Nat×Operand)) (cs:List AV) (vs:Array Value) (x:AV),
  QQ pl ev cs parts=some x→RepL μ h w cs vs.toList→∃ us:Array Value,Instr.fill pl' vs (parts.map fun p=>(p.1,ρ p.2))=some us∧Rep μ h w x (.agg us)
 | [],cs,vs,x,e,hr=>by
  simp only [QQ,Option.some.injEq] at e
  subst e
  exact ⟨vs,rfl,vs.toList,by simp,hr⟩
 | (i,y)::parts,cs,vs,x,e,hr=>by
  simp only [QQ] at e
  split at e
  ·rename_i o z hpl
   split at e
   ·rename_i ns hns
    split at e
    ·rename_i hc
     obtain ⟨_,hn⟩:=Xe hns (he y)
     have hl1:(ρ y).cells.toList.length=ns.length:=hn.len
     have hl2:vs.toList.length=cs.length:=hr.len
     have hl1':(ρ y).cells.size=ns.length:=by simpa using hl1
     have hl2':vs.size=cs.length:=by simpa using hl2
     have hfold:=Zbc o (ρ y).cells.toList 0 vs (by simp;omega)
     have ih:=Zah he pl pl' hp parts (splice cs o ns) ((ρ y).cells.zipIdx.foldl (fun cs (x:Value×Nat)=>cs.setIfInBounds (o+x.2) x.1) vs) x e (by
      rw [←Array.foldl_toList,Array.toList_zipIdx,hfold]
      simpa using RepL.splice o hr hn)
     obtain ⟨us,h1,h2⟩:=ih
     refine ⟨us,?_,h2⟩
     have hcond:¬((ρ y).cells.size≠z∨o+(ρ y).cells.size > vs.size):=by omega
     simp only [List.map_cons,Instr.fill,hp,hpl,Bool.or_eq_true,decide_eq_true_eq,ne_eq,gt_iff_lt] at hcond ⊢
     rw [if_neg (by simpa using hcond)]
     exact h1
    ·simp at e
   ·simp at e
  ·simp at e
theorem Zef:∀ (fs:List Field) (l:List (Nat×Nat)),Zaz P fs=some l→(fs.mapM (fun f=>do pure (f.offset,←sizeOf f.type):Field→Sem (Nat×Nat))).run P w=.ok l w
 | [],l,e=>by
  simp only [Zaz,Option.some.injEq] at e
  subst e
  simp
 | f::fs,l,e=>by
  simp only [Zaz] at e
  split at e
  ·rename_i i hi
   split at e
   ·rename_i l' hl'
    simp only [Option.some.injEq] at e
    subst e
    have ih:=Zef fs l' hl'
    have hs:(sizeOf f.type).run P w=.ok i.size w:=by simp [sizeOf,typeInfo,hi]
    simp only [List.mapM_cons,Sem.run_bind,hs,Result.andThen_ok,Sem.run_pure]
    rw [ih]
    rfl
   ·simp at e
  ·simp at e
theorem Zi6 {t:TypeId} {ev:Operand→AV} {ρ:Operand→Value} {parts:Array (Nat×Operand)} {x:AV} (he:XB μ h w ev ρ) (e:ZbN ev parts.toList (plc P t) (zv P t)=some x) :
  ∃ u,(Instr.build t (parts.map fun (i,x)=>(i,ρ x))).run P w=.ok u w∧Rep μ h w x u:=by
 unfold ZbN at e
 split at e
 ·rename_i p cs hp hz
  obtain ⟨i,z,hi,hz',hzv,hrun⟩:=Zco (w:=w) hz
  have hrep:Rep μ h w (Xr z) z:=Rep.pure _ _ (XE z)
  rw [←hzv] at hrep
  obtain ⟨vs,rfl,hl⟩:=hrep
  unfold plc at hp
  split at hp
  ·rename_i fs hu
   split at hp
   ·rename_i l hf
    simp only [Option.some.injEq] at hp
    subst hp
    obtain ⟨us,h1,h2⟩:=Zah he (ZcF (.fields l)) (fun i=>l.toArray[i]?) (fun i=>by simp [ZcF]) parts.toList cs vs.toArray x e (by simpa using hl)
    refine ⟨.agg us,?_,h2⟩
    have hm:(fs.mapM (fun f=>do pure (f.offset,←sizeOf f.type):Field→Sem (Nat×Nat))).run P w=.ok l.toArray w:=by
     obtain ⟨fl⟩:=fs
     rw [List.mapM_toArray,Sem.run_map,Zef fl l hf]
     rfl
    simp only [Instr.build,Sem.run_bind,hrun,Result.andThen_ok,run_underlying hu,Value.cells]
    rw [hm]
    simp only [Result.andThen_ok,Array.toList_map]
    rw [h1]
    rfl
   ·simp at hp
  ·rename_i n el hu
   split at hp
   ·rename_i j hj
    simp only [Option.some.injEq] at hp
    subst hp
    obtain ⟨us,h1,h2⟩:=Zah he (ZcF (.elems j.size)) (fun i=>some (i*j.size,j.size)) (fun i=>rfl) parts.toList cs vs.toArray x e (by simpa using hl)
    refine ⟨.agg us,?_,h2⟩
    simp only [Instr.build,Sem.run_bind,hrun,Result.andThen_ok,run_underlying hu,Value.cells,sizeOf,typeInfo,run_program,hj,Sem.run_pure,Array.toList_map]
    rw [h1]
    rfl
   ·simp at hp
  ·simp at hp
 ·simp at e
theorem PRepL.len {M:Nat→Nat→Prop}:∀ {cs:List AV} {vs:List Value},PRepL M w cs vs→vs.length=cs.length
 | [],vs,r=>by
  have:vs=[]:=r
  subst this
  rfl
 | _::_,_,r=>by
  obtain ⟨v,vr,rfl,_,h2⟩:=r
  simp [PRepL.len h2]
theorem PRepL.at {M:Nat→Nat→Prop}:∀ {cs:List AV} {vs:List Value},PRepL M w cs vs→∀ (i:Nat) (a:AV),cs[i]? = some a→∃ v,vs[i]? = some v∧PRep M w a v
 | [],_,_,i,a,e=>by simp at e
 | c::cs,_,r,i,a,e=>by
  obtain ⟨v,vr,rfl,h1,h2⟩:=r
  cases i with
  | zero =>
   simp only [List.getElem?_cons_zero,Option.some.injEq] at e
   subst e
   exact ⟨v,rfl,h1⟩
  | succ i=>simpa using PRepL.at h2 i a (by simpa using e)
theorem Zcf {M:Nat→Nat→Prop} {a:AV} {v:Value} {cs:List AV} (e:cellsOf a=some cs) (ha:PRep M w a v):Zl cs=true∧PRepL M w cs v.cells.toList:=by
 cases a with
 | agg l =>
  simp only [cellsOf] at e
  split at e
  ·rename_i hs
   simp only [Option.some.injEq] at e
   subst e
   obtain ⟨vs,rfl,hl⟩:=ha
   exact ⟨hs,hl⟩
  ·simp at e
 | tup _=>simp [cellsOf] at e
 | any=>simp [cellsOf] at e
 | int k n=>simp only [cellsOf,Option.some.injEq] at e;subst e;have:v=_:=ha;subst this;exact ⟨rfl,_,_,rfl,rfl,rfl⟩
 | bool b=>simp only [cellsOf,Option.some.injEq] at e;subst e;have:v=_:=ha;subst this;exact ⟨rfl,_,_,rfl,rfl,rfl⟩
 | str s=>simp only [cellsOf,Option.some.injEq] at e;subst e;have:v=_:=ha;subst this;exact ⟨rfl,_,_,rfl,rfl,rfl⟩
 | nilp=>simp only [cellsOf,Option.some.injEq] at e;subst e;have:v=_:=ha;subst this;exact ⟨rfl,_,_,rfl,rfl,rfl⟩
 | nilf=>simp only [cellsOf,Option.some.injEq] at e;subst e;have:v=_:=ha;subst this;exact ⟨rfl,_,_,rfl,rfl,rfl⟩
 | nili=>simp only [cellsOf,Option.some.injEq] at e;subst e;have:v=_:=ha;subst this;exact ⟨rfl,_,_,rfl,rfl,rfl⟩
 | emp _=>simp only [cellsOf,Option.some.injEq] at e;subst e;obtain ⟨b,c,rfl,hh⟩:=ha;exact ⟨rfl,_,_,rfl,⟨b,c,rfl,hh⟩,rfl⟩
 | nilm=>simp only [cellsOf,Option.some.injEq] at e;subst e;have:v=_:=ha;subst this;exact ⟨rfl,_,_,rfl,rfl,rfl⟩
 | nils=>simp only [cellsOf,Option.some.injEq] at e;subst e;have:v=_:=ha;subst this;exact ⟨rfl,_,_,rfl,rfl,rfl⟩
 | rows rs=>simp only [cellsOf,Option.some.injEq] at e;subst e;obtain ⟨b,c,rfl,hh⟩:=ha;exact ⟨rfl,_,_,rfl,⟨b,c,rfl,hh⟩,rfl⟩
 | lit rs=>simp only [cellsOf,Option.some.injEq] at e;subst e;obtain ⟨b,rfl,hh⟩:=ha;exact ⟨rfl,_,_,rfl,⟨b,rfl,hh⟩,rfl⟩
 | rptr r o=>simp only [cellsOf,Option.some.injEq] at e;subst e;obtain ⟨b,c,rfl,hh⟩:=ha;exact ⟨rfl,_,_,rfl,⟨b,c,rfl,hh⟩,rfl⟩
 | fn f cs'=>simp only [cellsOf,Option.some.injEq] at e;subst e;obtain ⟨b,rfl,hh⟩:=ha;exact ⟨rfl,_,_,rfl,⟨b,rfl,hh⟩,rfl⟩
 | bnd f cs'=>simp only [cellsOf,Option.some.injEq] at e;subst e;obtain ⟨b,rfl,hh⟩:=ha;exact ⟨rfl,_,_,rfl,⟨b,rfl,hh⟩,rfl⟩
 | iface t a=>simp only [cellsOf,Option.some.injEq] at e;subst e;obtain ⟨b,rfl,hh⟩:=ha;exact ⟨rfl,_,_,rfl,⟨b,rfl,hh⟩,rfl⟩
 | ptr l o=>exact ha.elim
 | mp _=>exact ha.elim
 | tptr _ _ _=>exact ha.elim
 | town _ _ _=>exact ha.elim
 | own l n=>exact ha.elim
 | optr l n i o=>exact ha.elim
theorem ZcY {kn:Bool} {ev:Operand→AV} {ρ:Operand→Value} (hr:Rel μ h w) (he:XB μ h w ev ρ) (z:Nat):∀ (parts:List (Nat×Operand)) (k:Nat) (rs:List (List AV)),WZ kn h ev z k parts=some rs →
  ∃ flat:List Value,flat.length=rs.length*z∧RowsIn (Mut μ h) w z rs flat.toArray ∧
   ∀ arr:Array Value,(k+rs.length)*z≤arr.size→∃ us:Array Value,Instr.fill (fun i=>some (i*z,z)) arr (parts.map fun p=>(p.1,ρ p.2))=some us ∧
    us.toList=arr.toList.take (k*z)++flat++arr.toList.drop ((k+rs.length)*z)
 | [],k,rs,e=>by
  simp only [WZ,Option.some.injEq] at e
  subst e
  refine ⟨[],by simp,fun i row e=>by simp at e,fun arr ha=>⟨arr,rfl,by simp⟩⟩
 | (j,x)::parts,k,rs,e=>by
  simp only [WZ] at e
  split at e
  ·rename_i hk
   subst hk
   split at e
   ·rename_i v hv
    split at e
    ·rename_i cs hcs
     split at e
     ·rename_i hz
      split at e
      ·rename_i rs' hrs
       simp only [Option.some.injEq] at e
       subst e
       obtain ⟨flat,hf1,hf2,hf3⟩:=ZcY hr he z parts (k+1) rs' hrs
       obtain ⟨hs,hp⟩:=Zcf hcs (Zos hr hv (he x))
       have hul:(ρ x).cells.toList.length=z:=by rw [hp.len];exact hz
       have hul':(ρ x).cells.size=z:=by simpa using hul
       refine ⟨(ρ x).cells.toList++flat,by simp only [List.length_append,hul,hf1,List.length_cons,Nat.succ_mul];omega,?_,?_⟩
       ·intro i row hrow
        cases i with
        | zero =>
         simp only [List.getElem?_cons_zero,Option.some.injEq] at hrow
         subst hrow
         refine ⟨hz,hs,fun c a ha=>?_⟩
         obtain ⟨u,h1,h2⟩:=hp.at c a ha
         refine ⟨u,?_,h2⟩
         have hc:c < z:=by rw [←hz];exact (List.getElem?_eq_some_iff.1 ha).1
         simp only [Nat.zero_mul,Nat.zero_add,List.getElem?_toArray]
         rw [List.getElem?_append_left (by omega)];exact h1
        | succ i =>
         simp only [List.getElem?_cons_succ] at hrow
         obtain ⟨h1,h2,h3⟩:=hf2 i row hrow
         refine ⟨h1,h2,fun c a ha=>?_⟩
         obtain ⟨u,h4,h5⟩:=h3 c a ha
         refine ⟨u,?_,h5⟩
         simp only [List.getElem?_toArray] at h4 ⊢
         rw [List.getElem?_append_right (by rw [hul,Nat.succ_mul];omega),hul,show (i+1)*z+c - z=i*z+c from by rw [Nat.succ_mul];omega]
         exact h4
       ·intro arr ha
        simp only [List.length_cons] at ha
        have hA:k*z+z≤arr.size:=by
         have:(k+1)*z≤(k+(rs'.length+1))*z:=Nat.mul_le_mul_right z (by omega)
         rw [Nat.succ_mul] at this
         omega
        have hfold:=Zbc (k*z) (ρ x).cells.toList 0 arr (by simp;omega)
        obtain ⟨us,h1,h2⟩:=hf3 ((ρ x).cells.zipIdx.foldl (fun cs (y:Value×Nat)=>cs.setIfInBounds (k*z+y.2) y.1) arr) (by
         have:((ρ x).cells.zipIdx.foldl (fun cs (y:Value×Nat)=>cs.setIfInBounds (k*z+y.2) y.1) arr).toList.length=arr.size:=by
          rw [←Array.foldl_toList,Array.toList_zipIdx,hfold]
          simp
          omega
         rw [Array.length_toList] at this
         rw [this,show k+1+rs'.length=k+(rs'.length+1) from by omega]
         exact ha)
        refine ⟨us,?_,?_⟩
        ·simp only [List.map_cons,Instr.fill]
         rw [if_neg (by simp;omega)]
         exact h1
        ·rw [h2,←Array.foldl_toList,Array.toList_zipIdx,hfold]
         have e1:(arr.toList.take (k*z+0)++(ρ x).cells.toList).length=(k+1)*z:=by
          simp only [List.length_append,List.length_take,Array.length_toList,hul,Nat.succ_mul]
          omega
         rw [List.take_append_of_le_length (by rw [e1];exact Nat.le_refl _),List.take_of_length_le (by rw [e1];exact Nat.le_refl _)]
         rw [show (k+1+rs'.length)*z=(arr.toList.take (k*z+0)++(ρ x).cells.toList).length+rs'.length*z from by rw [e1,Nat.add_mul (k+1)]]
         rw [List.drop_append,List.drop_eq_nil_of_le (by omega),Nat.add_sub_cancel_left,List.drop_drop,List.nil_append]
         simp only [Nat.add_zero,List.append_assoc,hul,List.length_cons]
         congr 4
         rw [Nat.add_mul,Nat.add_mul,Nat.one_mul]
         omega
      ·simp at e
     ·simp at e
    ·simp at e
   ·simp at e
  ·simp at e
theorem PRows.new (hr:Rel μ h w) {z:Nat} {rs:List (List AV)} {vs:Array Value} (hin:RowsIn (Mut μ h) w z rs vs) (e:TypeId) :
  PRows (Mut μ h) (w.alloc (.cells vs e)) z w.heap.size rs 0:=by
 refine PRows.of_at rs 0 fun i row hrow=>?_
 obtain ⟨h1,hs1,h3⟩:=hin i row hrow
 refine ⟨h1,hs1,PMem.of_at row _ fun c a ha=>?_⟩
 obtain ⟨u,hu,hp⟩:=h3 c a ha
 refine ⟨u,?_,?_,PRep.keep (Ext.alloc hr _).keep a u hp⟩
 ·rw [World.cell?_alloc_new,Nat.zero_add];exact hu
 ·rintro (ho | ⟨l,k,hl,hm,_⟩)
  ·have:=hr.old _ _ ho
   omega
  have:=hr.mapped (List.getElem?_eq_some_iff.1 hl).1 hm
  omega
theorem Zda {kn:Bool} {t:TypeId} {n z b:Nat} {ev:Operand→AV} {ρ:Operand→Value} {parts:Array (Nat×Operand)} {x:AV} (hr:Rel μ h w) (he:XB μ h w ev ρ) (hes:es P t=some (z,b)) (e:Zex n z (WZ kn h ev z 0 parts.toList)=some x) :
  Quiet P μ h w (Instr.buildSlice t n (parts.map fun (i,x)=>(i,ρ x))) x:=by
 obtain ⟨u,i,y,hu,hi,hz,_,hy,_⟩:=Zbg hes
 unfold Zex at e
 split at e
 ·rename_i rs hrs
  split at e
  ·rename_i hc
   obtain ⟨hn,hmax⟩:=hc
   simp only [Option.some.injEq] at e
   subst e
   obtain ⟨flat,hf1,hf2,hf3⟩:=ZcY hr he z parts.toList 0 rs hrs
   have main:∀ zero:Array Value,∃ us:Array Value,Instr.fill (fun i=>some (i*z,z)) ((Array.range (n*z)).map (zero[· % zero.size]!)) (parts.toList.map fun p=>(p.1,ρ p.2))=some us∧us=flat.toArray:=by
    intro zero
    obtain ⟨us,h1,h2⟩:=hf3 ((Array.range (n*z)).map (zero[· % zero.size]!)) (by simp [hn])
    refine ⟨us,h1,?_⟩
    apply Array.ext'
    rw [h2]
    simp [hn]
   have hgt:¬n*z > 2 ^ 24:=by omega
   refine ⟨.slice (some ⟨w.heap.size,0,none⟩) n n,w.alloc (.cells flat.toArray u),?_,hr.alloc _,Ext.alloc hr _,?_⟩
   ·by_cases h0:n*z=0
    ·obtain ⟨us,h1,rfl⟩:=main #[]
     simp only [Instr.buildSlice,Sem.run_bind,run_underlying hu,Result.andThen_ok,sizeOf,typeInfo,run_program,hi,Sem.run_pure,hz,if_neg hgt,if_pos h0,Array.toList_map]
     rw [h1]
     rfl
    ·obtain ⟨us,h1,rfl⟩:=main y.cells
     have hzv:(zeroValue u).run P w=.ok y w:=by simp [zeroValue,typeInfo,hi,hy]
     simp only [Instr.buildSlice,Sem.run_bind,run_underlying hu,Result.andThen_ok,sizeOf,typeInfo,run_program,hi,Sem.run_pure,hz,if_neg hgt,if_neg h0,hzv,Array.toList_map]
     rw [h1]
     rfl
   ·refine ⟨some ⟨w.heap.size,0,none⟩,by rw [hn],.inr ⟨w.heap.size,0,z,rfl,PRows.new hr hf2 u⟩⟩
  ·simp at e
 ·simp at e
theorem ZdX:∀ (s:List UInt8) (i:Nat) (row:List AV),(Zx s)[i]? = some row→∃ b,s[i]? = some b∧row=[.int .u8 (b.toNat:Int)]
 | [],i,row,e=>by simp [Zx] at e
 | b::s,0,row,e=>by
  simp only [Zx,List.getElem?_cons_zero,Option.some.injEq] at e
  exact ⟨b,rfl,e.symm⟩
 | b::s,i+1,row,e=>by
  simp only [Zx,List.getElem?_cons_succ] at e
  simpa using ZdX s i row e
theorem Ya:∀ s:List UInt8,(Zx s).length=s.length
 | []=>rfl
 | _::s=>by simp [Zx,Ya s]
theorem ZvG {a b:TypeId} {k:IntKind} (e:Jx P a b=.int k):(∃ j,P.underlying a=some (.int j))∧P.underlying b=some (.int k):=by
 unfold Jx at e
 split at e<;>(try split at e)<;>simp_all
theorem ZpR {a b:TypeId} (e:Jx P a b=.str):((∃ j,P.underlying a=some (.int j))∨P.underlying a=some .string)∧P.underlying b=some .string:=by
 unfold Jx at e
 split at e<;>(try split at e)<;>simp_all
theorem ZpG {a b:TypeId} (e:Jx P a b=.bytes):P.underlying a=some .string∧∃ u,P.underlying b=some (.slice u)∧P.underlying u=some (.int .u8):=by
 unfold Jx at e
 split at e<;>(try split at e)<;>simp_all
theorem ZbY {a b:TypeId} (e:Jx P a b=.ofBytes):P.underlying b=some .string∧∃ u,P.underlying a=some (.slice u)∧P.underlying u=some (.int .u8):=by
 unfold Jx at e
 split at e<;>(try split at e)<;>simp_all
theorem Zki (w:World) (a:Addr) (n b o:Nat):(w.freeze a n).cell? ⟨b,o,none⟩=w.cell? ⟨b,o,none⟩:=by
 unfold World.freeze
 by_cases hn:n=0
 ·rw [if_pos hn]
 ·rw [if_neg hn]
  simp only [World.cell?,Array.getElem?_modify]
  by_cases hb:a.block=b
  ·simp only [if_pos hb]
   cases w.heap[b]? with
   | none=>rfl
   | some x=>cases x<;>rfl
  ·simp only [if_neg hb]
theorem Ext.freeze {w1:World} (e:Ext μ h w μ h w1) (hr:Rel μ h w) (hown:∀ l b,l < h.length→μ l=some b→w1.heap[b]? = w.heap[b]?) {b:Nat} (hb:w.heap.size≤b) (a:Addr) (ha:a.block=b) (n:Nat):Ext μ h w μ h (w1.freeze a n)∧Rel μ h (w1.freeze a n):=by
 subst ha
 by_cases hn:n=0
 ·have:w1.freeze a n=w1:=by simp [World.freeze,hn]
  rw [this];exact ⟨e,hr.ext_same e hown⟩
 have hheap:∀ k,k≠a.block→(w1.freeze a n).heap[k]? = w1.heap[k]? := by
  intro k hk
  simp only [World.freeze,if_neg hn,Array.getElem?_modify]
  rw [if_neg (by omega)]
 have hsz:(w1.freeze a n).heap.size=w1.heap.size:=by simp [World.freeze,hn]
 have e2:Ext μ h w μ h (w1.freeze a n):={
  out:=rfl
  still:=rfl
  os:=by rw [←e.os];simp [World.freeze,hn]
  tape:=by rw [←e.tape];simp [World.freeze,hn]
  output:=by rw [←e.output];simp [World.freeze,hn]
  size:=by rw [hsz];exact e.size
  len:=Nat.le_refl _
  maps:=fun _ es hl=>⟨⟨es,hl⟩,rfl⟩
  keep:=fun b o v hc hm=>by
   have hlt:b < w.heap.size:=by
    by_cases hlt:b < w.heap.size
    ·exact hlt
    ·simp [World.cell?,Array.getElem?_eq_none (Nat.le_of_not_lt hlt)] at hc
   obtain ⟨h1,h2⟩:=e.keep b o v hc hm
   exact ⟨by simp only [World.cell?] at h1 ⊢;rw [hheap b (by omega)];exact h1,h2⟩
  outside:=fun b hlt ho=>by
   obtain ⟨h1,h2⟩:=e.outside b hlt ho
   exact ⟨by rw [hheap b (by omega)];exact h1,h2⟩
  cells:=e.cells
  rows:=e.rows
  sizes:=fun b vs T hc=>by
   have hlt:b < w.heap.size:=by
    by_cases hlt:b < w.heap.size
    ·exact hlt
    ·exact hc.lt
   obtain ⟨vs',h1,h2⟩:=e.sizes b vs T hc
   exact ⟨vs',h1.eq (hheap b (by omega)),h2⟩ }
 refine ⟨e2,?_⟩
 refine hr.ext_same e2 fun l b hl hm=>?_
 have:=hr.mapped hl hm
 rw [hheap b (by omega)]
 exact hown l b hl hm
theorem Zai:∀ (rs:List (List AV)) (l:List UInt8),Jh rs=some l→∃ xs:List Int,rs=xs.map (fun n=>[AV.int .u8 n])∧l=xs.map fun n=>UInt8.ofNat n.toNat
 | [],l,e=>by
  simp only [Jh,Option.some.injEq] at e
  exact ⟨[],rfl,e.symm⟩
 | row::rs,l,e=>by
  unfold Jh at e
  split at e
  ·rename_i h0;simp at h0
  ·rename_i n r h0
   obtain ⟨rfl,rfl⟩:=List.cons.inj h0
   split at e
   ·rename_i l' hl
    simp only [Option.some.injEq] at e
    obtain ⟨xs,rfl,rfl⟩:=Zai _ _ hl
    exact ⟨n::xs,rfl,by rw [←e];rfl⟩
   ·simp at e
  ·simp at e
theorem ZgT {a b u:TypeId} (ha:P.underlying a=some (.slice u)) (hu:P.underlying u=some (.int .u8)) (hb:P.underlying b=some .string) (xs:List Int) (base:Option Addr) (cap:Nat)
  (hm:xs.map (fun n=>[AV.int .u8 n])=[]∨∃ b o z,base=some ⟨b,o,none⟩∧PRows (Mut μ h) w z b (xs.map (fun n=>[AV.int .u8 n])) o) :
  (convert a b (.slice base xs.length cap)).run P w=.ok (.string ⟨(xs.map fun n=>UInt8.ofNat n.toNat).toArray⟩) w:=by
 rcases hm with h0 | ⟨bb,o,z,rfl,hp⟩
 ·have:xs=[]:=by simpa using h0
  subst this
  cases base with
  | none=>exact run_convert_bytes_nil w a u ha hu _ _ b hb
  | some ad =>
   rw [run_convert_bytes_string w a b u (some ad) _ cap ha hu hb,run_bytesToString w ad _ cap [] (by simp [loadCells,loadCellsFrom,Sem.run_pure])]
   rfl
 ·refine run_convert_bytes_arg w a u ha hu bb o xs.length cap xs rfl (fun i hi=>?_) b hb
  have hz:z=1:=by
   have h4:=(PRows.at _ o hp 0 [AV.int .u8 (xs[0]'(by omega))] (by simp [show 0 < xs.length by omega])).1
   simpa using h4.symm
  subst hz
  have h5:=(PRows.at _ o hp i [AV.int .u8 (xs[i]'hi)] (by simp [hi])).2.2
  obtain ⟨v,h6,_,h7⟩:=PMem.at _ _ h5 0 _ rfl
  have h8:v=.int .u8 (xs[i]'hi):=h7
  subst h8
  rw [Nat.mul_one,Nat.add_zero] at h6
  rw [h6]
  simp [List.getD,hi]
theorem Zgb {a b:TypeId} {y x:AV} {v:Value} (hr:Rel μ h w) (e:ZcD (Jx P a b) y=some x) (hy:Rep μ h w y v):Quiet P μ h w (convert a b v) x:=by
 unfold ZcD at e
 split at e
 ·rename_i k j n hc
  obtain ⟨⟨j',ha⟩,hb⟩:=ZvG hc
  have:v=.int j n:=hy
  subst this
  simp only [Option.some.injEq] at e
  subst e
  exact Quiet.of_same hr ⟨_,by simp only [convert,Sem.run_bind,run_underlying ha,run_underlying hb,Result.andThen_ok,Conv.intToInt,Sem.run_pure];rfl,rfl⟩
 ·rename_i s hc
  obtain ⟨ha,hb⟩:=ZpR hc
  have:v=.string ⟨s.toArray⟩:=hy
  subst this
  simp only [Option.some.injEq] at e
  subst e
  rcases ha with ⟨j,ha⟩ | ha
  ·exact Quiet.of_same hr ⟨_,by simp only [convert,Sem.run_bind,run_underlying ha,run_underlying hb,Result.andThen_ok,Sem.run_pure],rfl⟩
  ·exact Quiet.of_same hr ⟨_,by simp only [convert,Sem.run_bind,run_underlying ha,run_underlying hb,Result.andThen_ok,Sem.run_pure],rfl⟩
 ·rename_i k n hc
  obtain ⟨ha,hb⟩:=ZpR hc
  have:v=.int k n:=hy
  subst this
  simp only [Option.some.injEq] at e
  subst e
  rcases ha with ⟨j,ha⟩ | ha
  ·exact Quiet.of_same hr ⟨.string (Utf8.encode n),by simp only [convert,Sem.run_bind,run_underlying ha,run_underlying hb,Result.andThen_ok,Conv.intToString,Sem.run_pure],by simp [Rep,PRep]⟩
  ·exact Quiet.of_same hr ⟨.string (Utf8.encode n),by simp only [convert,Sem.run_bind,run_underlying ha,run_underlying hb,Result.andThen_ok,Conv.intToString,Sem.run_pure],by simp [Rep,PRep]⟩
 ·rename_i s hc
  obtain ⟨ha,u,hb,hu⟩:=ZpG hc
  have:v=.string ⟨s.toArray⟩:=hy
  subst this
  simp only [Option.some.injEq] at e
  subst e
  have hs:(⟨s.toArray⟩:ByteArray).size=s.length:=rfl
  obtain ⟨cap,w0,hdraw,hcap,hw0,hw1,hw2,hw3⟩:∃ cap w0,(choose (.appendCap s.length 0 u)).run P w=.ok cap w0∧s.length≤cap∧w0.heap=w.heap∧w0.os=w.os∧w0.tape=w.tape∧w0.output=w.output:=by
   refine ⟨_,{ w with drawn:=w.drawn+1 },by simp only [run_choose,Question.forced,Bool.false_eq_true,if_false];rfl,?_,rfl,rfl,rfl,rfl⟩
   simp only [Question.cut]
   omega
  let cells:Array Value:=(s.toArray.map fun b=>Value.int .u8 b.toNat)++Array.replicate (cap - s.length) (.int .u8 0)
  have hr0:Rel μ h w0:=hr.heap_eq hw0 hw1 hw2 hw3
  have e0:Ext μ h w μ h w0:=Ext.heap_eq hw0 hw1 hw2 hw3
  let w1:=w0.alloc (.cells cells u)
  have e1:Ext μ h w μ h w1:=e0.trans (Ext.alloc hr0 _)
  have hown:∀ l b,l < h.length→μ l=some b→w1.heap[b]? = w.heap[b]? := fun l b hl hm=>by
   have:=hr.mapped hl hm
   show (w0.heap.push _)[b]? = _
   rw [hw0,Array.getElem?_push,if_neg (by omega)]
  obtain ⟨e2,hr2⟩:=Ext.freeze e1 hr hown (b:=w.heap.size) (Nat.le_refl _) ⟨w.heap.size,cells.size,none⟩ rfl 1
  have hin:RowsIn (Mut μ h) w0 1 (Zx s) cells:=fun i row hrow=>by
   obtain ⟨b,hb,rfl⟩:=ZdX s i row hrow
   refine ⟨rfl,rfl,fun c a ha=>?_⟩
   cases c with
   | zero =>
    simp only [List.getElem?_cons_zero,Option.some.injEq] at ha
    subst ha
    have hi:i < s.length:=(List.getElem?_eq_some_iff.1 hb).1
    refine ⟨.int .u8 b.toNat,?_,rfl⟩
    simp only [cells,Nat.mul_one,Nat.add_zero]
    rw [Array.getElem?_append_left (by simpa using hi)]
    simp [hb]
   | succ c=>simp at ha
  have hp:=PRows.new hr0 hin u
  refine ⟨.slice (some ⟨w.heap.size,0,none⟩) s.length cap,w1.freeze ⟨w.heap.size,cells.size,none⟩ 1,?_,hr2,e2,?_⟩
  ·simp only [convert,Sem.run_bind,run_underlying ha,run_underlying hb,run_underlying hu,Result.andThen_ok,Conv.stringToBytes,hs,hdraw,newRow,run_newObj,Sem.run_pure,markStringish,run_shape]
   have h1:World.shape? { w0 with heap:=w0.heap.push (.cells ((s.toArray.map fun b=>Value.int .u8 b.toNat)++Array.replicate (cap - s.length) (.int .u8 0)) u) } w0.heap.size=some (u,cells.size):=by
    simp [World.shape?,cells]
   have hsz:w0.heap.size=w.heap.size:=by rw [hw0]
   rw [h1]
   simp only [run_freeze,Result.andThen_ok,hsz]
   rfl
  ·refine ⟨some ⟨w.heap.size,0,none⟩,cap,by rw [Ya],by rw [Ya];exact hcap,.inr ⟨w.heap.size,0,1,rfl,?_⟩⟩
   rw [hw0] at hp
   refine PRows.keep ?_ _ _ _ _ hp
   intro b o v hc hm
   refine ⟨?_,hm⟩
   rw [Zki]
   exact hc
 ·rename_i rs hc
  obtain ⟨hb,u,ha,hu⟩:=ZbY hc
  unfold Zj5 at e
  split at e
  ·rename_i l hl
   simp only [Option.some.injEq] at e
   subst e
   obtain ⟨xs,rfl,rfl⟩:=Zai _ _ hl
   obtain ⟨base,cap,rfl,hcap,hm⟩:=hy
   refine Quiet.of_same hr ⟨.string ⟨(List.map (fun n:Int=>UInt8.ofNat n.toNat) xs).toArray⟩,?_,rfl⟩
   rw [List.length_map]
   exact ZgT ha hu hb xs base cap hm
  ·simp at e
 ·rename_i rs hc
  obtain ⟨hb,u,ha,hu⟩:=ZbY hc
  unfold Zj5 at e
  split at e
  ·rename_i l hl
   simp only [Option.some.injEq] at e
   subst e
   obtain ⟨xs,rfl,rfl⟩:=Zai _ _ hl
   obtain ⟨base,rfl,hm⟩:=hy
   refine Quiet.of_same hr ⟨.string ⟨(List.map (fun n:Int=>UInt8.ofNat n.toNat) xs).toArray⟩,?_,rfl⟩
   simp only [List.length_map]
   exact ZgT ha hu hb xs base _ hm
  ·simp at e
 ·rename_i hc
  obtain ⟨hb,u,ha,hu⟩:=ZbY hc
  simp only [Option.some.injEq] at e
  subst e
  have:v=.slice none 0 0:=hy
  subst this
  exact Quiet.of_same hr ⟨.string ByteArray.empty,run_convert_bytes_nil w a u ha hu _ _ b hb,rfl⟩
 ·simp at e
def ZlN (P:Program) (kk:KK) (t:TypeId):Prop :=
 match kk with
 | .int=>∃ k,P.underlying t=some (.int k)
 | .str=>P.underlying t=some .string
 | .arr n=>∃ e k,P.underlying t=some (.array n e)∧P.underlying e=some (.int k)∧∃ i,P.info? e=some i∧i.size=1
theorem ZmH {t e:TypeId} {kk:KK} (h:Zem P t=some (kk,e)):∃ k,P.underlying t=some (.map k e)∧ZlN P kk k:=by
 unfold Zem at h
 split at h
 ·rename_i k e' hu
  split at h
  ·rename_i i hk
   simp only [Option.some.injEq,Prod.mk.injEq] at h
   obtain ⟨rfl,rfl⟩:=h
   exact ⟨k,hu,i,hk⟩
  ·rename_i hk
   simp only [Option.some.injEq,Prod.mk.injEq] at h
   obtain ⟨rfl,rfl⟩:=h
   exact ⟨k,hu,hk⟩
  ·rename_i n i hk
   split at h
   ·rename_i j hi
    split at h
    ·rename_i y hy
     split at h
     ·rename_i hsz
      simp only [Option.some.injEq,Prod.mk.injEq] at h
      obtain ⟨rfl,rfl⟩:=h
      exact ⟨k,hu,i,j,hk,hi,y,hy,hsz⟩
     ·simp at h
    ·simp at h
   ·simp at h
  ·simp at h
 ·simp at h
theorem Zge {kk:KK} {t:TypeId} (hk:ZlN P kk t) (hn:∀ n,kk≠.arr n) (b:Bool) (v:Value) (n:Nat):(Instr.checkKey b (n+1) t v).run P w=.ok () w:=by
 cases kk with
 | int =>
  obtain ⟨k,hu⟩:=hk
  simp [Instr.checkKey,run_underlying hu]
 | str =>
  have hu:P.underlying t=some .string:=hk
  simp [Instr.checkKey,run_underlying hu]
 | arr m=>exact absurd rfl (hn m)
theorem Zjx {f:Nat→PUnit→Sem (ForInStep PUnit)}:∀ (l:List Nat),(∀ i,i∈l→(f i ⟨⟩).run P w=.ok (.yield ⟨⟩) w)→(forIn l PUnit.unit f:Sem PUnit).run P w=.ok ⟨⟩ w
 | [],_=>by simp
 | i::l,h=>by
  simp only [List.forIn_cons,Sem.run_bind,h i (by simp),Result.andThen_ok]
  exact Zjx l fun j hj=>h j (List.mem_cons_of_mem _ hj)
theorem Zhk {t e:TypeId} {n:Nat} {k:IntKind} {i:TypeInfo} (hu:P.underlying t=some (.array n e)) (he:P.underlying e=some (.int k)) (hi:P.info? e=some i) (hs:i.size=1) (b:Bool) (cs:Array Value) (hc:n≤cs.size) (d:Nat) :
  (Instr.checkKey b (d+2) t (.agg cs)).run P w=.ok () w:=by
 have hz:(sizeOf e).run P w=.ok 1 w:=by simp [sizeOf,typeInfo,hi,hs]
 have hel:∀ v:Value,(Instr.checkKey b (d+1) e v).run P w=.ok () w:=fun v=>by simp [Instr.checkKey,run_underlying he]
 rw [Instr.checkKey]
 simp only [Sem.run_bind,run_underlying hu,Result.andThen_ok]
 have:=Zjx (P:=P) (w:=w) (f:=fun i _=>do
  Instr.checkKey b (d+1) e (←Go.part e cs (i*(←sizeOf e)))
  pure (ForInStep.yield PUnit.unit)) (List.range' 0 n) (fun j hj=>by
   have hj':j < cs.size:=by
    have:=(List.mem_range'_1.1 hj).2
    omega
   have hp:(Go.part e cs (j*1)).run P w=.ok cs[j] w:=by simp [Go.part,isAgg,run_underlying he,hj']
   simp only [Sem.run_bind,hz,hp,hel,Result.andThen_ok,Sem.run_pure])
 rw [Std.Legacy.Range.forIn_eq_forIn_range']
 simp only [Std.Legacy.Range.size,Nat.sub_zero,Nat.add_sub_cancel,Nat.div_one]
 rw [this]
 simp
theorem ZcM {kk:KK} {t:TypeId} (hk:ZlN P kk t) (hn:∀ n,kk≠.arr n) (b:Bool) (v:Value):(Instr.checkKey b 10000 t v).run P w=.ok () w:=Zge hk hn b v 9999
def ZbK (kk:KK) (i:IntKind):TypeDesc :=
 match kk with
 | .int=>.int i
 | .str=>.string
 | .arr _=>.string
theorem Qt {M:Nat→Nat→Prop} {kk:KK} {i:IntKind} {a b:AV} {va vb:Value} {r:Bool} (e:Xc kk a b=some r) (ha:PRep M w a va) (hb:PRep M w b vb):Instr.sameNow (ZbK kk i) va vb=some r∧(r=true→vb=va∧a=b)∧(r=false→WW a b=true):=by
 unfold Xc at e
 split at e
 ·rename_i k x k' y
  have e1:va=.int k x:=ha
  have e2:vb=.int k' y:=hb
  subst e1 e2
  split at e
  ·rename_i hk
   subst hk
   simp only [Option.some.injEq] at e
   subst e
   exact ⟨by simp [Instr.sameNow,ZbK],fun hr=>by rw [show x=y by simpa using hr];exact ⟨rfl,rfl⟩,fun hr=>by simp [WW,hr]⟩
  ·simp at e
 ·rename_i x y
  have e1:va=.string ⟨x.toArray⟩:=ha
  have e2:vb=.string ⟨y.toArray⟩:=hb
  subst e1 e2
  simp only [Option.some.injEq] at e
  subst e
  have h1:((⟨x.toArray⟩:ByteArray)==⟨y.toArray⟩)=(x==y):=by
   show ((x.toArray==y.toArray):Bool)=_
   simp
  exact ⟨by simp only [Instr.sameNow,ZbK,h1],fun hr=>by rw [show x=y by simpa using hr];exact ⟨rfl,rfl⟩,fun hr=>by simp [WW,hr]⟩
 ·simp at e
theorem Zj3 {kk:KK} {k k' q:AV} (h1:Xc kk k k'=some true) (h2:WW k' q=true∨WW q k'=true):Xc kk k q=some false:=by
 unfold Xc at h1
 split at h1
 ·rename_i j x j' y
  split at h1
  ·rename_i hk
   subst hk
   have hxy:x=y:=by simpa using h1
   subst hxy
   cases q with
   | int k2 b =>
    simp only [WW,Bool.and_eq_true,decide_eq_true_eq,Bool.not_eq_true',beq_eq_false_iff_ne] at h2
    have hk:j=k2:=by rcases h2 with h | h;exact h.1;exact h.1.symm
    have hne:x≠b:=by rcases h2 with h | h;exact h.2;exact fun e=>h.2 e.symm
    subst hk
    simp [Xc,hne]
   | _=>simp [WW] at h2
  ·simp at h1
 ·rename_i x y
  have hxy:x=y:=by simpa using h1
  subst hxy
  cases q with
  | str b =>
   simp only [WW,Bool.not_eq_true',beq_eq_false_iff_ne] at h2
   have hne:x≠b:=by rcases h2 with h | h;exact h;exact fun e=>h e.symm
   simp [Xc,hne]
  | _=>simp [WW] at h2
 ·simp at h1
theorem Zdu {kk:KK} {k:AV}:∀ (es:List (AV×AV)) (n:Nat),Yc kk k es n=some none→∀ p,p∈es→Xc kk k p.1=some false
 | [],_,_,p,hp=>by simp at hp
 | (k',v)::es,n,e,p,hp=>by
  simp only [Yc] at e
  split at e
  ·simp at e
  ·rename_i hq
   rcases List.mem_cons.1 hp with rfl | hp
   ·exact hq
   ·exact Zdu es (n+1) e p hp
  ·simp at e
theorem Zbx {kk:KK} {k v:AV} {i:Nat}:∀ (es:List (AV×AV)) (n:Nat),Yc kk k es n=some (some (i,v))→n≤i∧∃ k',es[i - n]? = some (k',v)∧Xc kk k k'=some true
 | [],_,e=>by simp [Yc] at e
 | (k',u)::es,n,e=>by
  simp only [Yc] at e
  split at e
  ·rename_i hq
   simp only [Option.some.injEq,Prod.mk.injEq] at e
   obtain ⟨rfl,rfl⟩:=e
   exact ⟨Nat.le_refl _,k',by simp,hq⟩
  ·obtain ⟨h1,k2,h2,h3⟩:=Zbx es (n+1) e
   refine ⟨by omega,k2,?_,h3⟩
   rw [show i - n=(i - (n+1))+1 by omega,List.getElem?_cons_succ]
   exact h2
  ·simp at e
theorem EntRep.at {M:Nat→Nat→Prop}:∀ (es:List (AV×AV)) (ms:List MapEntry) (i:Nat),EntRep M w es ms→(∀ p,es[i]? = some p→∃ m,ms[i]? = some m∧PRep M w p.1 m.key∧PRep M w p.2 m.val)∧(∀ m,ms[i]? = some m→∃ p,es[i]? = some p∧PRep M w p.1 m.key∧PRep M w p.2 m.val)
 | [],ms,i,h=>by
  have:ms=[]:=h
  subst this
  simp
 | (k,v)::es,ms,i,h=>by
  obtain ⟨m,mr,rfl,h1,h2,h3⟩:=h
  cases i with
  | zero=>simp [h1,h2]
  | succ i=>simpa using EntRep.at es mr i h3
theorem Zjg {desc:TypeDesc} {vk:Value}:∀ (ms:List MapEntry) (n:Nat),(∀ m,m∈ms→Instr.sameNow desc vk m.key=some false)→Instr.findNow desc vk ms n=some none
 | [],_,_=>rfl
 | m::ms,n,h=>by
  simp only [Instr.findNow,h m (by simp)]
  exact Zjg ms (n+1) fun m' hm=>h m' (List.mem_cons_of_mem _ hm)
theorem ZiB {desc:TypeDesc} {vk:Value}:∀ (ms:List MapEntry) (n:Nat),(∀ m,m∈ms→∃ b,Instr.sameNow desc vk m.key=some b)→(∃ m,m∈ms∧Instr.sameNow desc vk m.key=some true)→∃ j m,ms[j]? = some m∧Instr.sameNow desc vk m.key=some true∧Instr.findNow desc vk ms n=some (some (n+j,m.val))
 | [],_,_,h=>by obtain ⟨m,hm,_⟩:=h;simp at hm
 | m::ms,n,h1,h2=>by
  obtain ⟨b,hb⟩:=h1 m (by simp)
  cases b with
  | true=>exact ⟨0,m,rfl,hb,by simp [Instr.findNow,hb]⟩
  | false =>
   obtain ⟨m',hm',ht⟩:=h2
   obtain ⟨j,m2,h3,h4,h5⟩:=ZiB ms (n+1) (fun m hm=>h1 m (List.mem_cons_of_mem _ hm)) ⟨m',by
    rcases List.mem_cons.1 hm' with rfl | hm'
    ·rw [hb] at ht;simp at ht
    ·exact hm',ht⟩
   exact ⟨j+1,m2,by simpa using h3,h4,by simp only [Instr.findNow,hb,h5];congr 3;omega⟩
theorem Zhz {α:Type} {m:α}:∀ (l:List α) (i:Nat),l[i]? = some m→l.Perm (m::l.eraseIdx i)
 | [],i,h=>by simp at h
 | a::l,0,h=>by
  simp only [List.getElem?_cons_zero,Option.some.injEq] at h
  subst h
  exact List.Perm.refl _
 | a::l,i+1,h=>by
  simp only [List.getElem?_cons_succ] at h
  simp only [List.eraseIdx_cons_succ]
  exact ((Zhz l i h).cons a).trans (List.Perm.swap _ _ _)
theorem Zf0 {α:Type} {m:α} (f:α→α):∀ (l:List α) (i:Nat),l[i]? = some m→(l.modify i f).Perm (f m::l.eraseIdx i)
 | [],i,h=>by simp at h
 | a::l,0,h=>by
  simp only [List.getElem?_cons_zero,Option.some.injEq] at h
  subst h
  exact List.Perm.refl _
 | a::l,i+1,h=>by
  simp only [List.getElem?_cons_succ] at h
  simp only [List.eraseIdx_cons_succ,List.modify_succ_cons]
  exact ((Zf0 f l i h).cons a).trans (List.Perm.swap _ _ _)
theorem Zq3 {α:Type} {m:α} (f:α→α) {l l':List α} {i j:Nat} (hp:l.Perm l') (h1:l[i]? = some m) (h2:l'[j]? = some m):(l.modify i f).Perm (l'.modify j f):=by
 have h3:(l.eraseIdx i).Perm (l'.eraseIdx j):=((Zhz l i h1).symm.trans (hp.trans (Zhz l' j h2))).cons_inv
 exact (Zf0 f l i h1).trans ((h3.cons _).trans (Zf0 f l' j h2).symm)
def ZcP (M:Nat→Nat→Prop) (w:World) (es:List (AV×AV)) (ms:List MapEntry) (vk:Value):Option (Nat×AV)→Option (Nat×Value)→Prop
 | none,r=>r=none
 | some (i,a),r=>∃ j m,ms[j]? = some m∧r=some (j,m.val)∧PRep M w a m.val∧m.key=vk∧(∃ k',es[i]? = some (k',a)∧PRep M w k' vk) ∧
   ∃ ms',ms'.Perm ms∧ms'[i]? = some m∧EntRep M w es ms'
theorem ZoB {M:Nat→Nat→Prop} {kk:KK} {i:IntKind} {k:AV} {vk:Value} {es:List (AV×AV)} {ms:List MapEntry} {r:Option (Nat×AV)} (hk:PRep M w k vk) (he:EntSet M w es ms) (e:Yc kk k es 0=some r) :
  ∃ r',Instr.findNow (ZbK kk i) vk ms 0=some r'∧ZcP M w es ms vk r r':=by
 obtain ⟨hap,ms',hperm,hrep⟩:=he
 cases r with
 | none =>
  have h1:=Zdu es 0 e
  refine ⟨none,Zjg ms 0 fun m hm=>?_,rfl⟩
  obtain ⟨j,hj⟩:=List.mem_iff_getElem?.1 (hperm.mem_iff.2 hm)
  obtain ⟨p,hp,h2,_⟩:=(EntRep.at es ms' j hrep).2 m hj
  exact (Qt (i:=i) (h1 p (List.mem_of_getElem? hp)) hk h2).1
 | some q =>
  obtain ⟨n,a⟩:=q
  obtain ⟨_,k',hk',hq⟩:=Zbx es 0 e
  simp only [Nat.sub_zero] at hk'
  obtain ⟨m,hm,h2,h3⟩:=(EntRep.at es ms' n hrep).1 _ hk'
  obtain ⟨h4,h5,_⟩:=Qt (i:=i) hq hk h2
  have other:∀ j m2,ms'[j]? = some m2→j≠n→Instr.sameNow (ZbK kk i) vk m2.key=some false:=fun j m2 hj hne=>by
   obtain ⟨p,hp,h6,_⟩:=(EntRep.at es ms' j hrep).2 m2 hj
   refine (Qt (i:=i) (Zj3 hq ?_) hk h6).1
   have e1:(es.map (·.1))[n]? = some k':=by simp [hk']
   have e2:(es.map (·.1))[j]? = some p.1:=by simp [hp]
   rcases Nat.lt_or_gt_of_ne hne with hlt | hlt
   ·right
    obtain ⟨q1,g1⟩:=List.getElem?_eq_some_iff.1 e2
    obtain ⟨q2,g2⟩:=List.getElem?_eq_some_iff.1 e1
    have:=(List.pairwise_iff_getElem.1 hap) j n q1 q2 hlt
    rwa [g1,g2] at this
   ·left
    obtain ⟨q1,g1⟩:=List.getElem?_eq_some_iff.1 e1
    obtain ⟨q2,g2⟩:=List.getElem?_eq_some_iff.1 e2
    have:=(List.pairwise_iff_getElem.1 hap) n j q1 q2 hlt
    rwa [g1,g2] at this
  obtain ⟨j,m2,g1,g2,g3⟩:=ZiB (desc:=ZbK kk i) (vk:=vk) ms 0 (fun m3 hm3=>by
   obtain ⟨l,hl⟩:=List.mem_iff_getElem?.1 (hperm.mem_iff.2 hm3)
   by_cases hln:l=n
   ·subst hln
    rw [hm] at hl
    simp only [Option.some.injEq] at hl
    subst hl
    exact ⟨_,h4⟩
   ·exact ⟨_,other l m3 hl hln⟩) ⟨m,hperm.mem_iff.1 (List.mem_of_getElem? hm),h4⟩
  have hmm:m2=m:=by
   obtain ⟨l,hl⟩:=List.mem_iff_getElem?.1 (hperm.mem_iff.2 (List.mem_of_getElem? g1))
   by_cases hln:l=n
   ·subst hln
    rw [hm] at hl
    exact (Option.some.inj hl).symm
   ·have:=other l m2 hl hln
    rw [g2] at this
    simp at this
  subst hmm
  rw [Nat.zero_add] at g3
  have hkv:m2.key=vk:=(h5 rfl).1
  exact ⟨some (j,m2.val),g3,j,m2,g1,rfl,h3,hkv,⟨k',hk',by rw [←hkv];exact h2⟩,ms',hperm,hm,hrep⟩
theorem Ztn {kk:KK} {t:TypeId} (hk:ZlN P kk t) (hn:∀ n,kk≠.arr n):∃ i,P.underlying t=some (ZbK kk i):=by
 cases kk with
 | int=>obtain ⟨i,hi⟩:=hk;exact ⟨i,hi⟩
 | str=>exact ⟨.i64,hk⟩
 | arr n=>exact absurd rfl (hn n)
theorem Zkp {M:Nat→Nat→Prop} {kk:KK} {t:TypeId} {k:AV} {vk:Value} {es:List (AV×AV)} {ms:List MapEntry} {r:Option (Nat×AV)} (ht:ZlN P kk t) (hn:∀ n,kk≠.arr n) (hk:PRep M w k vk) (he:EntSet M w es ms) (e:Yc kk k es 0=some r) :
  ∃ r',(Instr.findKey t vk ms).run P w=.ok r' w∧ZcP M w es ms vk r r':=by
 obtain ⟨i,hu⟩:=Ztn ht hn
 obtain ⟨r',h1,h2⟩:=ZoB (i:=i) hk he e
 exact ⟨r',by simp [Instr.findKey,run_underlying hu,h1],h2⟩
theorem Zky {t:TypeId} {d:TypeDesc} {vk:Value} (hu:P.underlying t=some d):(Instr.findKey t vk []).run P w=.ok none w:=by simp [Instr.findKey,run_underlying hu,Instr.findNow]
theorem Zkj:∀ {n:Nat} {l:List AV},Qa n l=true→l.length=n
 | 0,[],_=>rfl
 | 0,_::_,h=>by simp [Qa] at h
 | n+1,[],h=>by simp [Qa] at h
 | n+1,a::l,h=>by
  cases a with
  | int k x =>
   cases k with
   | i64=>simp only [Qa] at h;simp [Zkj h]
   | _=>simp [Qa] at h
  | _=>simp [Qa] at h
theorem Zcm {kk:KK} {t:TypeId} {k:AV} {vk:Value} (ht:ZlN P kk t) (hf:ZdA kk k=true) (hk:Rep μ h w k vk) (b:Bool):(Instr.checkKey b 10000 t vk).run P w=.ok () w:=by
 cases kk with
 | int=>exact ZcM ht (by simp) b vk
 | str=>exact ZcM ht (by simp) b vk
 | arr n =>
  obtain ⟨e,j,hu,he,i,hi,hs⟩:=ht
  cases k with
  | agg a =>
   obtain ⟨vs,rfl,hv⟩:=hk
   have h1:=Zkj (show Qa n a=true from hf)
   have h2:=hv.len
   exact Zhk hu he hi hs b vs.toArray (by simp;omega) 9998
  | _=>simp [ZdA] at hf
theorem ZaD {kk:KK} {t:TypeId} {k:AV} {vk:Value} {es:List (AV×AV)} {ms:List MapEntry} {r:Option (Nat×AV)} (ht:ZlN P kk t) (hk:Rep μ h w k vk) (he:EntSet (Mut μ h) w es ms) (e:Yc kk k es 0=some r) :
  ∃ r',(Instr.findKey t vk ms).run P w=.ok r' w∧ZcP (Mut μ h) w es ms vk r r':=by
 cases es with
 | nil =>
  obtain ⟨_,ms',hp,hr⟩:=he
  have:ms'=[]:=hr
  subst this
  have:ms=[]:=hp.symm.eq_nil
  subst this
  simp only [Yc,Option.some.injEq] at e
  subst e
  have hd:∃ d,P.underlying t=some d:=by
   cases kk with
   | int=>obtain ⟨i,hi⟩:=ht;exact ⟨_,hi⟩
   | str=>exact ⟨_,ht⟩
   | arr n=>obtain ⟨e,j,hu,_⟩:=ht;exact ⟨_,hu⟩
  obtain ⟨d,hd⟩:=hd
  exact ⟨none,Zky hd,rfl⟩
 | cons p es =>
  have hkp:PRep (Mut μ h) w k vk∧∀ n,kk≠.arr n:=by
   simp only [Yc] at e
   cases hq:Xc kk k p.1 with
   | none=>simp [hq] at e
   | some b =>
    unfold Xc at hq
    split at hq
    ·exact ⟨hk,by simp⟩
    ·exact ⟨hk,by simp⟩
    ·simp at hq
  exact Zkp ht hkp.2 hkp.1 he e
theorem Zg8 {t:TypeId} {x k y:AV} {ok:Bool} {vx vk:Value} (hr:Rel μ h w) (e:Zci P t h x k ok=some y) (hx:Rep μ h w x vx) (hk:Rep μ h w k vk) :
  ∃ u,(Instr.lookup t vx vk ok).run P w=.ok u w∧Rep μ h w y u:=by
 unfold Zci at e
 split at e
 ·rename_i kk el es hkk hes
  obtain ⟨kt,hu,hkt⟩:=ZmH hkk
  cases hfit:ZdA kk k with
  | false=>simp [hfit] at e
  | true =>
  simp only [hfit,cond_true] at e
  have hck:=fun b=>Zcm hkt hfit hk b
  have fin:∀ {ms:List MapEntry} {r:Option (Nat×AV)} {r':Option (Nat×Value)},Zbi ok (zv P el) (some r)=some y→ZcP (Mut μ h) w es ms vk r r' →
    ∃ u,((do
     let (v,ok') ←match r' with
      | some (_,v)=>pure (v,true)
      | none=>pure (←zeroValue el,false)
     pure (if ok then Value.tuple #[v,.bool ok'] else v):Sem Value)).run P w=.ok u w∧Rep μ h w y u:=by
   intro ms r r' e1 hf
   cases r with
   | none =>
    have:r'=none:=hf
    subst this
    simp only [Zbi] at e1
    split at e1
    ·rename_i z hz
     simp only [Option.some.injEq] at e1
     subst e1
     obtain ⟨i,z',_,_,h3,h4⟩:=Zco (w:=w) hz
     have hrep:Rep μ h w z z':=by rw [h3];exact Rep.pure _ _ (XE z')
     cases ok with
     | true=>exact ⟨.tuple #[z',.bool false],by simp [h4],[z',.bool false],rfl,z',_,rfl,hrep,_,_,rfl,rfl,rfl⟩
     | false=>exact ⟨z',by simp [h4],hrep⟩
    ·simp at e1
   | some p =>
    obtain ⟨i,a⟩:=p
    obtain ⟨j,m,_,rfl,h2,_⟩:=hf
    simp only [Zbi,Option.some.injEq] at e1
    subst e1
    have hrep:Rep μ h w a m.val:=Rep.pure _ _ h2
    cases ok with
    | true=>exact ⟨.tuple #[m.val,.bool true],by simp,[m.val,.bool true],rfl,m.val,_,rfl,hrep,_,_,rfl,rfl,rfl⟩
    | false=>exact ⟨m.val,by simp,hrep⟩
  cases hf:Yc kk k es 0 with
  | none=>rw [hf] at e;simp [Zbi] at e
  | some r =>
   rw [hf] at e
   cases x with
   | nilm =>
    have hv:vx=.map none:=hx
    subst hv
    simp only [Wo,Option.some.injEq] at hes
    subst hes
    obtain ⟨r',h6,h7⟩:=ZaD (ms:=[]) hkt hk EntSet.empty hf
    obtain ⟨u,h1,h2⟩:=fin (ms:=[]) e h7
    refine ⟨u,?_,h2⟩
    simp only [Instr.lookup,Sem.run_bind,run_underlying hu,Result.andThen_ok,Sem.run_pure,hck,h6] at h1 ⊢
    exact h1
   | mp l =>
    simp only [Wo] at hes
    split at hes
    ·rename_i es' hl
     simp only [Option.some.injEq] at hes
     subst hes
     obtain ⟨es2,b,h1,h2,rfl⟩:=hx
     obtain ⟨b',ms,c,h3,h4,h5⟩:=hr.blk l _ hl
     have:b'=b:=by rw [h2] at h3;simpa using h3.symm
     subst this
     obtain ⟨r',h6,h7⟩:=ZaD hkt hk h5 hf
     obtain ⟨u,h8,h9⟩:=fin e h7
     have hg:(getObj b').run P w=.ok (.map ms.toArray c) w:=by simp [getObj,Sem.run,h4]
     refine ⟨u,?_,h9⟩
     simp only [Instr.lookup,Sem.run_bind,run_underlying hu,Result.andThen_ok,Sem.run_pure,hck,hg,h6] at h8 ⊢
     exact h8
    ·simp at hes
   | _=>simp [Wo] at hes
 ·simp at e
theorem EntRep.modify {M:Nat→Nat→Prop} {k v:AV} {vk vv:Value} (hk:PRep M w k vk) (hv:PRep M w v vv):∀ (es:List (AV×AV)) (ms:List MapEntry) (i:Nat),EntRep M w es ms→EntRep M w (es.modify i fun _=>(k,v)) (ms.modify i fun e=>{ e with key:=vk,val:=vv })
 | [],ms,i,h=>by
  have:ms=[]:=h
  subst this
  cases i<;>exact rfl
 | (k',v')::es,ms,i,h=>by
  obtain ⟨m,mr,rfl,h1,h2,h3⟩:=h
  cases i with
  | zero=>exact ⟨_,mr,rfl,hk,hv,h3⟩
  | succ i=>exact ⟨m,_,rfl,h1,h2,EntRep.modify hk hv es mr i h3⟩
theorem EntRep.ins {M:Nat→Nat→Prop} {k v:AV} {m:MapEntry} (hk:PRep M w k m.key) (hv:PRep M w v m.val):∀ (es:List (AV×AV)) (ms:List MapEntry),EntRep M w es ms→∃ ms':List MapEntry,ms'.Perm (m::ms)∧EntRep M w (XG k v es) ms'
 | [],ms,h=>by
  have:ms=[]:=h
  subst this
  exact ⟨[m],List.Perm.refl _,m,[],rfl,hk,hv,rfl⟩
 | (k',v')::es,ms,h=>by
  obtain ⟨m',mr,rfl,h1,h2,h3⟩:=h
  simp only [XG]
  split
  ·exact ⟨m::m'::mr,List.Perm.refl _,m,_,rfl,hk,hv,m',mr,rfl,h1,h2,h3⟩
  ·obtain ⟨ms',h4,h5⟩:=EntRep.ins hk hv es mr h3
   exact ⟨m'::ms',(h4.cons m').trans (List.Perm.swap _ _ _),m',ms',rfl,h1,h2,h5⟩
theorem ZgN (k v:AV):∀ es:List (AV×AV),(XG k v es).Perm ((k,v)::es)
 | []=>List.Perm.refl _
 | p::es=>by
  simp only [XG]
  split
  ·exact List.Perm.refl _
  ·exact ((ZgN k v es).cons p).trans (List.Perm.swap _ _ _)
theorem ZiP {a b:AV} (h:WW a b=true):WW b a=true:=by
 cases a<;>cases b<;>simp [WW] at h ⊢
 ·exact ⟨h.1.symm,fun e=>h.2 e.symm⟩
 ·exact fun e=>h e.symm
theorem EntSet.ins {M:Nat→Nat→Prop} {kk:KK} {k v:AV} {m:MapEntry} {es:List (AV×AV)} {ms:List MapEntry} (he:EntSet M w es ms) (hf:Yc kk k es 0=some none) (hk:PRep M w k m.key) (hv:PRep M w v m.val) (i:IntKind):EntSet M w (XG k v es) (ms++[m]):=by
 obtain ⟨hap,ms',hp,hr⟩:=he
 obtain ⟨ms2,h1,h2⟩:=EntRep.ins hk hv es ms' hr
 refine ⟨?_,ms2,h1.trans ((hp.cons m).trans (List.perm_append_singleton m ms).symm),h2⟩
 have hperm:((XG k v es).map (·.1)).Perm (k::es.map (·.1)):=(ZgN k v es).map (·.1)
 unfold Zq2
 rw [hperm.pairwise_iff fun h=>ZiP h]
 refine List.pairwise_cons.2 ⟨fun q hq=>?_,hap⟩
 obtain ⟨p,hpm,rfl⟩:=List.mem_map.1 hq
 obtain ⟨j,hj⟩:=List.mem_iff_getElem?.1 hpm
 obtain ⟨m2,_,h4,_⟩:=(EntRep.at es ms' j hr).1 p hj
 exact (Qt (i:=i) (Zdu es 0 hf p hpm) hk h4).2.2 rfl
theorem EntSet.put {M:Nat→Nat→Prop} {kk:KK} {k v a:AV} {vk vv:Value} {i j:Nat} {m:MapEntry} {es:List (AV×AV)} {ms:List MapEntry} (he:EntSet M w es ms) (hf:Yc kk k es 0=some (some (i,a))) (hk:PRep M w k vk) (hv:PRep M w v vv) {ms':List MapEntry} (hp:ms'.Perm ms) (hm':ms'[i]? = some m) (hm:ms[j]? = some m) (hr:EntRep M w es ms') :
  EntSet M w (es.modify i fun _=>(k,v)) (ms.modify j fun e=>{ e with key:=vk,val:=vv }):=by
 obtain ⟨hap,_⟩:=he
 refine ⟨?_,_,Zq3 (fun e=>{ e with key:=vk,val:=vv }) hp hm' hm,EntRep.modify hk hv es ms' i hr⟩
 obtain ⟨_,k',hk',hq⟩:=Zbx es 0 hf
 simp only [Nat.sub_zero] at hk'
 have hkk:k=k':=by
  unfold Xc at hq
  split at hq
  ·rename_i j1 x1 j2 y1
   split at hq
   ·rename_i h1
    have:x1=y1:=by simpa using hq
    rw [h1,this]
   ·simp at hq
  ·rename_i x1 y1
   have:x1=y1:=by simpa using hq
   rw [this]
  ·simp at hq
 subst hkk
 have:(es.modify i fun _=>(k,v)).map (·.1)=es.map (·.1):=by
  apply List.ext_getElem?
  intro l
  simp only [List.getElem?_map,List.getElem?_modify]
  by_cases hl:i=l
  ·subst hl;simp [hk']
  ·simp [hl]
 unfold Zq2
 rw [this]
 exact hap
theorem Zhm {kk:KK} {k:AV} {vk:Value} {M:Nat→Nat→Prop} (hk:ZbG kk k=true) (hn:∀ n,kk≠.arr n) (hr:PRep M w k vk):(Instr.keyThatStays vk vk).run P w=.ok vk w:=by
 unfold ZbG at hk
 split at hk
 ·rename_i j a
  have:vk=.int j a:=hr
  subst this
  simp [Instr.keyThatStays,Instr.sameBits]
 ·rename_i s
  have:vk=.string ⟨s.toArray⟩:=hr
  subst this
  have h1:((⟨s.toArray⟩:ByteArray)==⟨s.toArray⟩)=true:=by
   show ((s.toArray==s.toArray):Bool)=true
   simp
  simp [Instr.keyThatStays,Instr.sameBits,h1]
 ·exact absurd rfl (hn _)
 ·simp at hk
theorem Ext.putMap {l b:Nat} {es es':List (AV×AV)} {ms ms':Array MapEntry} {c c':Nat} (hl:h[l]? = some (.map es)) (hm:μ l=some b) (hb:w.heap[b]? = some (.map ms c)) :
  Ext μ h w μ (h.set l (.map es')) { w with heap:=w.heap.setIfInBounds b (.map ms' c') } where
 out:=rfl
 still:=rfl
 os:=rfl
 tape:=rfl
 output:=rfl
 size:=by simp
 len:=by simp
 keep:=fun b' o v hc hmu=>by
  have hll:l < h.length:=(List.getElem?_eq_some_iff.1 hl).1
  refine ⟨?_,?_⟩
  ·by_cases hbb:b=b'
   ·subst hbb
    simp [World.cell?,hb] at hc
   ·simp only [World.cell?] at hc ⊢
    rw [Array.getElem?_setIfInBounds_ne hbb];exact hc
  ·rintro (ho | ⟨l',k2,hl2,hm2,ho⟩)
   ·exact hmu (.inl ho)
   ·by_cases hll':l=l'
    ·subst hll'
     exact hmu (.inr ⟨l,_,hl,hm2,trivial⟩)
    ·rw [List.getElem?_set_ne hll'] at hl2
     exact hmu (.inr ⟨l',k2,hl2,hm2,ho⟩)
 outside:=fun b' hlt ho=>⟨by
   have hbb:b≠b':=fun e=>by
    subst e
    exact ho l (List.getElem?_eq_some_iff.1 hl).1 hm
   exact Array.getElem?_setIfInBounds_ne hbb,fun l' hl'=>ho l' (by simpa using hl')⟩
 cells:=fun l' cs hl'=>by
  refine ⟨⟨cs,?_⟩,rfl⟩
  have hll':l≠l':=fun e=>by subst e;rw [hl] at hl';simp at hl'
  rw [List.getElem?_set_ne hll'];exact hl'
 rows:=fun l' z rs wr hl'=>by
  have hll':l≠l':=fun e=>by subst e;rw [hl] at hl';simp at hl'
  exact ⟨rs,wr,by rw [List.getElem?_set_ne hll'];exact hl',Nat.le_refl _,fun _=>rfl⟩
 maps:=fun l' es2 hl'=>by
  refine ⟨?_,rfl⟩
  have hll:l < h.length:=(List.getElem?_eq_some_iff.1 hl).1
  by_cases hll':l=l'
  ·subst hll'
   exact ⟨es',by rw [List.getElem?_set_self hll]⟩
  ·exact ⟨es2,by rw [List.getElem?_set_ne hll'];exact hl'⟩
 sizes:=fun b' vs2 T2 hb2=>by
  obtain ⟨fz,hb2⟩:=hb2
  have hbb:b≠b':=fun e=>by subst e;rw [hb] at hb2;simp at hb2
  exact ⟨vs2,⟨fz,by rw [←hb2];exact Array.getElem?_setIfInBounds_ne hbb⟩,rfl⟩
end
section
variable {Bs:World→Prop}
def Yb (Bs:World→Prop) (P:Program) (g:FuncId) (args:List AV) (h:Zd) (r:AV) (h':Zd):Prop :=
 ∀ (μ:Mp Bs) (w:World) (vs:List Value),Rel μ h w→RepL μ h w args vs →
  Calls P g vs.toArray w fun e w'=>∃ v μ',e=.returned v∧Rel μ' h' w'∧Ext μ h w μ' h' w'∧Rep μ' h' w' r v
def X5 (Bs:World→Prop) (P:Program) (F:Tk→Res):Prop :=
 ∀ g args h r h',F (.call g args h)=some (r,h')→Go.Proofs.Enters P g∧Yb Bs P g args h r h'
end
section
variable {Bs:World→Prop}
variable {P:Program} {μ:Mp Bs} {h h':Zd} {w:World} {a:Act} {o:Oper} {x:AV}
def Wa (P:Program) (o:Oper) (a:Act) (μ:Mp Bs) (h:Zd) (w:World) (x:AV) (h':Zd):Prop :=
 ∀ (next:Act→World→Prop) (Q:Exit→Act→World→Prop),(∀ v μ' w',Rel μ' h' w'→Ext μ h w μ' h' w'→Rep μ' h' w' x v→next (a.put o.dst v) w')→o.wp P a w next Q
end
end Go.Ab
